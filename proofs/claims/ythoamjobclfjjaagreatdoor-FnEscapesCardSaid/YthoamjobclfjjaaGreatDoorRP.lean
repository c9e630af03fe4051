/- What the four marks are turned to, over lists of bytes; what a table of Rep holds at each byte. No condition but what each states. -/
import Derived.Test.YthoamjobclfjjaaGreatDoorRC
import Derived.Lib.Bytealg
namespace Go.Proofs.YthoamjobclfjjaaGreatDoor.K
set_option linter.unusedVariables false
set_option linter.unusedSimpArgs false
open Go.RowKit Go.Proofs.YthoamjobclfjjaaGreatDoor Go.Proofs.YthoamjobclfjjaaGreatDoorW.PrintWords Go.Proofs.YthoamjobclfjjaaGreatDoorW.PrintLast Go.Proofs.YthoamjobclfjjaaGreatDoorW.PrintMore
def repOf (c : UInt8) : Option ByteArray :=
  if c = 34 then some ⟨#[38, 113, 117, 111, 116, 59]⟩ else if c = 38 then some ⟨#[38, 97, 109, 112, 59]⟩ else if c = 62 then some ⟨#[38, 103, 116, 59]⟩ else if c = 60 then some ⟨#[38, 108, 116, 59]⟩ else none
def esc1 (c : UInt8) : List UInt8 := match repOf c with | some t => t.data.toList | none => [c]
def escL (l : List UInt8) : List UInt8 := l.flatMap esc1
def escB (s : ByteArray) : ByteArray := ⟨(escL s.data.toList).toArray⟩
theorem repOf_cases (c : UInt8) : (c = 34 ∧ repOf c = some ⟨#[38, 113, 117, 111, 116, 59]⟩) ∨ (c = 38 ∧ repOf c = some ⟨#[38, 97, 109, 112, 59]⟩) ∨ (c = 62 ∧ repOf c = some ⟨#[38, 103, 116, 59]⟩) ∨ (c = 60 ∧ repOf c = some ⟨#[38, 108, 116, 59]⟩) ∨ (c ≠ 34 ∧ c ≠ 38 ∧ c ≠ 62 ∧ c ≠ 60 ∧ repOf c = none) := by
  unfold repOf
  by_cases h1 : c = 34
  · exact .inl ⟨h1, if_pos h1⟩
  by_cases h2 : c = 38
  · exact .inr (.inl ⟨h2, by rw [if_neg h1, if_pos h2]⟩)
  by_cases h3 : c = 62
  · exact .inr (.inr (.inl ⟨h3, by rw [if_neg h1, if_neg h2, if_pos h3]⟩))
  by_cases h4 : c = 60
  · exact .inr (.inr (.inr (.inl ⟨h4, by rw [if_neg h1, if_neg h2, if_neg h3, if_pos h4]⟩)))
  · exact .inr (.inr (.inr (.inr ⟨h1, h2, h3, h4, by rw [if_neg h1, if_neg h2, if_neg h3, if_neg h4]⟩)))
theorem repOf_mem {c : UInt8} {t : ByteArray} (h : repOf c = some t) : (c, t) ∈ marks := by
  rcases repOf_cases c with ⟨rfl, e⟩ | ⟨rfl, e⟩ | ⟨rfl, e⟩ | ⟨rfl, e⟩ | ⟨_, _, _, _, e⟩ <;> rw [e] at h
  · obtain rfl := Option.some.inj h; simp [marks]
  · obtain rfl := Option.some.inj h; simp [marks]
  · obtain rfl := Option.some.inj h; simp [marks]
  · obtain rfl := Option.some.inj h; simp [marks]
  · cases h
theorem repOf_size {c : UInt8} {t : ByteArray} (h : repOf c = some t) : 4 ≤ t.size ∧ t.size ≤ 6 := by
  rcases repOf_cases c with ⟨rfl, e⟩ | ⟨rfl, e⟩ | ⟨rfl, e⟩ | ⟨rfl, e⟩ | ⟨_, _, _, _, e⟩ <;> rw [e] at h
  · obtain rfl := Option.some.inj h; decide
  · obtain rfl := Option.some.inj h; decide
  · obtain rfl := Option.some.inj h; decide
  · obtain rfl := Option.some.inj h; decide
  · cases h
theorem esc1_some {c : UInt8} {t : ByteArray} (h : repOf c = some t) : esc1 c = t.data.toList := by unfold esc1; rw [h]
theorem esc1_none {c : UInt8} (h : repOf c = none) : esc1 c = [c] := by unfold esc1; rw [h]
theorem esc1_len (c : UInt8) : 1 ≤ (esc1 c).length ∧ (esc1 c).length ≤ 6 := by
  cases h : repOf c with
  | none => rw [esc1_none h]; simp
  | some t =>
    have := repOf_size h
    rw [esc1_some h]
    have e : t.data.toList.length = t.size := rfl
    omega
theorem escL_cons (c : UInt8) (l : List UInt8) : escL (c :: l) = esc1 c ++ escL l := by simp [escL]
theorem escL_append (a b : List UInt8) : escL (a ++ b) = escL a ++ escL b := by simp [escL]
theorem escL_step (l : List UInt8) (i : Nat) (hi : i < l.length) : escL (l.take (i + 1)) = escL (l.take i) ++ esc1 l[i] := by
  rw [List.take_succ_eq_append_getElem hi, escL_append, escL_cons]
  simp [escL]
theorem escL_le : ∀ l : List UInt8, l.length ≤ (escL l).length ∧ (escL l).length ≤ 6 * l.length
  | [] => by simp [escL]
  | c :: l => by
    have h1 := escL_le l
    have h2 := esc1_len c
    rw [escL_cons, List.length_append, List.length_cons]
    omega
theorem escL_split (l : List UInt8) (i : Nat) : (escL l).length = (escL (l.take i)).length + (escL (l.drop i)).length := by
  rw [← List.length_append, ← escL_append, List.take_append_drop]
theorem escL_room (l : List UInt8) (i : Nat) (hi : i < l.length) : (escL (l.take i)).length + (esc1 l[i]).length ≤ (escL l).length := by
  rw [escL_split l i, List.drop_eq_getElem_cons hi, escL_cons, List.length_append]
  omega
theorem escL_count : ∀ l : List UInt8, (escL l).length = l.length + 5 * l.count 34 + 4 * l.count 38 + 3 * l.count 62 + 3 * l.count 60
  | [] => by simp [escL]
  | c :: l => by
    have h1 := escL_count l
    rw [escL_cons, List.length_append, List.length_cons, h1]
    rcases repOf_cases c with ⟨rfl, e⟩ | ⟨rfl, e⟩ | ⟨rfl, e⟩ | ⟨rfl, e⟩ | ⟨n1, n2, n3, n4, e⟩
    · rw [esc1_some e, List.count_cons_self, List.count_cons_of_ne (by decide), List.count_cons_of_ne (by decide), List.count_cons_of_ne (by decide)]
      simp only [List.length_cons, List.length_nil]
      omega
    · rw [esc1_some e, List.count_cons_self, List.count_cons_of_ne (by decide), List.count_cons_of_ne (by decide), List.count_cons_of_ne (by decide)]
      simp only [List.length_cons, List.length_nil]
      omega
    · rw [esc1_some e, List.count_cons_self, List.count_cons_of_ne (by decide), List.count_cons_of_ne (by decide), List.count_cons_of_ne (by decide)]
      simp only [List.length_cons, List.length_nil]
      omega
    · rw [esc1_some e, List.count_cons_self, List.count_cons_of_ne (by decide), List.count_cons_of_ne (by decide), List.count_cons_of_ne (by decide)]
      simp only [List.length_cons, List.length_nil]
      omega
    · rw [esc1_none e, List.count_cons_of_ne n1, List.count_cons_of_ne n2, List.count_cons_of_ne n3, List.count_cons_of_ne n4]
      simp only [List.length_cons, List.length_nil]
      omega
theorem escL_self : ∀ l : List UInt8, l.any (fun c => (repOf c).isSome) = false → escL l = l
  | [], _ => rfl
  | c :: l, h => by
    rw [List.any_cons, Bool.or_eq_false_iff] at h
    rw [escL_cons, escL_self l h.2]
    cases hc : repOf c with
    | none => rw [esc1_none hc]; rfl
    | some t => rw [hc] at h; simp at h
theorem any_step (l : List UInt8) (i : Nat) (hi : i < l.length) : (l.take (i + 1)).any (fun c => (repOf c).isSome) = ((l.take i).any (fun c => (repOf c).isSome) || (repOf l[i]).isSome) := by
  rw [List.take_succ_eq_append_getElem hi, List.any_append]
  simp
theorem any_count : ∀ l : List UInt8, l.any (fun c => (repOf c).isSome) = (decide (l.count 34 ≠ 0) || decide (l.count 38 ≠ 0) || decide (l.count 62 ≠ 0) || decide (l.count 60 ≠ 0))
  | [] => rfl
  | c :: l => by
    have h1 := any_count l
    rw [List.any_cons, h1]
    rcases repOf_cases c with ⟨rfl, e⟩ | ⟨rfl, e⟩ | ⟨rfl, e⟩ | ⟨rfl, e⟩ | ⟨n1, n2, n3, n4, e⟩
    · rw [e, List.count_cons_self]; simp
    · rw [e, List.count_cons_self]; simp
    · rw [e, List.count_cons_self]; simp
    · rw [e, List.count_cons_self]; simp
    · rw [e, List.count_cons_of_ne n1, List.count_cons_of_ne n2, List.count_cons_of_ne n3, List.count_cons_of_ne n4]; simp
theorem Rep.at_none {B : Nat} {W : World} {g tr : Nat} (h : Rep B W g tr marks) {c : UInt8} (hc : repOf c = none) : W.cell? ⟨g, c.toNat, none⟩ = some (.slice none 0 0) := by
  refine h.nil c.toNat (UInt8.toNat_lt c) (fun p hp e => ?_)
  rcases repOf_cases c with ⟨_, e2⟩ | ⟨_, e2⟩ | ⟨_, e2⟩ | ⟨_, e2⟩ | ⟨n1, n2, n3, n4, _⟩
  · rw [e2] at hc; cases hc
  · rw [e2] at hc; cases hc
  · rw [e2] at hc; cases hc
  · rw [e2] at hc; cases hc
  · have e3 := UInt8.toNat_inj.1 e
    simp [marks] at hp
    rcases hp with rfl | rfl | rfl | rfl
    · exact n1 e3.symm
    · exact n2 e3.symm
    · exact n3 e3.symm
    · exact n4 e3.symm
theorem Rep.at_some {B : Nat} {W : World} {g tr : Nat} (h : Rep B W g tr marks) {c : UInt8} {t : ByteArray} (hc : repOf c = some t) : ∃ r cap, W.cell? ⟨g, c.toNat, none⟩ = some (.slice (some ⟨r, 0, none⟩) t.size cap) ∧ r < W.heap.size ∧ ∀ j, j < t.size → W.cell? ⟨r, j, none⟩ = some (.int .u8 (t.data.toList.getD j 0).toNat) := by
  obtain ⟨cg, a1, a2, a3, a4, a5⟩ := h.row
  obtain ⟨r, cap, c1, c2, c3, c4, c5, c6⟩ := a5 (c, t) (repOf_mem hc)
  refine ⟨r, cap, ?_, c3, c6⟩
  simp only [World.cell?, a1]
  exact c1
end Go.Proofs.YthoamjobclfjjaaGreatDoor.K
