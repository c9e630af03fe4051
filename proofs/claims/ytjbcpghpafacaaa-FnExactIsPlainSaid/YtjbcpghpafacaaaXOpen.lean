/- How data that came in are read as lists and records: each value that can be read as data of a type stands for a list, a record, a number. No condition. -/
import Derived.Test.YtjbcpghpafacaaaXWords
import Derived.ChangeArms
import Derived.ChangeSame
import Derived.ChangeSlices
import Derived.DataReads
import Derived.Deep.Slices
namespace Go.Proofs.Ytjbcpghpafacaaa
open Go.RowKit Go.Proofs.YtjbcpghpafacaaaW.PrintWords Go.Proofs.YtjbcpghpafacaaaW.PrintLast Go.Proofs.YtjbcpghpafacaaaW.PrintMore
theorem list_choose {α : Type} {p : Nat → α → Prop} : ∀ n, (∀ i, i < n → ∃ z, p i z) → ∃ l : List α, l.length = n ∧ ∀ i z, l[i]? = some z → p i z
  | 0, _ => ⟨[], rfl, by simp⟩
  | n + 1, h => by
    obtain ⟨l, hl, hp⟩ := list_choose n (fun i hi => h i (by omega))
    obtain ⟨z, hz⟩ := h n (by omega)
    refine ⟨l ++ [z], by simp [hl], fun i y hy => ?_⟩
    by_cases hi : i < l.length
    · rw [List.getElem?_append_left hi] at hy
      exact hp i y hy
    · rw [List.getElem?_append_right (by omega)] at hy
      obtain ⟨h0, rfl⟩ : i - l.length = 0 ∧ z = y := by
        cases h0 : i - l.length with
        | zero => rw [h0] at hy; simpa using hy
        | succ m => rw [h0] at hy; simp at hy
      obtain rfl : i = n := by omega
      exact hz
section
variable {H : Type} {enc : TypeId × Value → H} {P : Program} {w : World} {base : Nat} {spare : Nat → Bool} {held : Bool}
/-- What can be read as data of type t stands for a value of this kind that is so. -/
def Opens {α : Type} (enc : TypeId × Value → H) (P : Program) (w : World) (base : Nat) (spare : Nat → Bool) (held : Bool) (d : Kd α) (t : TypeId) (wf : α → Prop) : Prop :=
  ∀ fuel cs x, DataW.trod enc P w base spare held fuel t cs = some x → ∃ a, d.K w a cs ∧ wf a
theorem opens_int {t : TypeId} {k : IntKind} (ht : P.underlying t = some (.int k)) : Opens enc P w base spare held (Kd.int k) t (fun n => (Lit.int k n).wf = true) := by
  intro fuel cs x h
  cases fuel with
  | zero => simp [DataW.trod] at h
  | succ n =>
    unfold DataW.trod at h
    rw [ht] at h
    split at h <;> simp_all
    exact ⟨_, rfl, h.1.2⟩
theorem opens_bool {t : TypeId} (ht : P.underlying t = some .bool) : Opens enc P w base spare held Kd.bool t (fun _ => True) := by
  intro fuel cs x h
  cases fuel with
  | zero => simp [DataW.trod] at h
  | succ n =>
    unfold DataW.trod at h
    rw [ht] at h
    split at h <;> simp_all
    rename_i b
    cases b
    · exact .inl rfl
    · exact .inr rfl
theorem opens_string {t : TypeId} (ht : P.underlying t = some .string) : Opens enc P w base spare held Kd.string t (fun s => s.size ≤ 9223372036854775807) := by
  intro fuel cs x h
  cases fuel with
  | zero => simp [DataW.trod] at h
  | succ n =>
    unfold DataW.trod at h
    rw [ht] at h
    split at h <;> simp_all
    exact ⟨_, rfl, by have := h.1; simpa [maxLen] using this⟩
/-- A slice. -/
theorem opens_slice {α : Type} {d : Kd α} {wf : α → Prop} {t e : TypeId} (ht : P.underlying t = some (.slice e)) (hc : P.cellsOf e = d.sz) (ho : Opens enc P w base spare held d e wf) :
    Opens enc P w base spare held (Kd.slice e d) t (fun l => l.length ≤ 9223372036854775807 ∧ ∀ x ∈ l, wf x) := by
  intro fuel cs x h
  rcases Go.Deep.open_slice ht h with ⟨rfl, _⟩ | ⟨a, len, cap, m, n, D, Pl, rfl, hb, hl, hm, hmm, rfl, hx⟩
  · exact ⟨[], ⟨none, 0, rfl, Nat.le_refl _, Kd.C_nil _ _⟩, by simp⟩
  · have hlm : len ≤ m := by rw [hmm]; split <;> omega
    have hm' : cap ≤ 9223372036854775807 := by simpa [maxLen] using hm
    obtain ⟨l, hll, hp⟩ := list_choose (p := fun i z => ∃ cs', cs'.length = d.sz ∧ d.K w z cs' ∧ wf z ∧ ∀ q u, cs'[q]? = some u → w.cell? (a.add (i * d.sz + q)) = some u) len (fun i hi => by
      obtain ⟨cs', h1, h2⟩ := hx i (by omega)
      obtain ⟨z, hz, hwz⟩ := ho _ _ _ h2
      obtain ⟨_, hlen, hcell⟩ := World.cells?_some h1
      refine ⟨z, cs', by rw [hlen, hc], hz, hwz, fun q u hu => ?_⟩
      have hq : q < P.cellsOf e := by rw [← hlen]; exact (List.getElem?_eq_some_iff.1 hu).1
      have h3 := hcell q hq
      rw [add_add, hu, hc] at h3
      exact h3)
    refine ⟨l, ⟨some a, cap, by rw [hll], by omega, ⟨rfl, by omega, fun _ => ⟨a, rfl, fun j p hj => ?_⟩⟩⟩, by omega, fun z hz => ?_⟩
    · obtain ⟨cs', h1, h2, _, h4⟩ := hp j p hj
      exact ⟨cs', h1, h2, h4⟩
    · obtain ⟨j, hj⟩ := List.mem_iff_getElem?.1 hz
      obtain ⟨_, _, _, h3, _⟩ := hp j z hj
      exact h3
/-- The fields of a record, from one place on. -/
def OpensF {α : Type} (enc : TypeId × Value → H) (P : Program) (w : World) (base : Nat) (spare : Nat → Bool) (held : Bool) (d : Kd α) (off : Nat) (fs : List Field) (wf : α → Prop) : Prop :=
  ∀ n (cs : List Value), (∀ f, f ∈ fs → ∃ x, DataW.trod enc P w base spare held n f.type ((cs.drop f.offset).take (P.cellsOf f.type)) = some x) → cs.length = off + d.sz → ∃ a, d.K w a (cs.drop off) ∧ wf a
theorem opensF_last {α : Type} {d : Kd α} {off : Nat} {f : Field} {wf : α → Prop} (hoff : f.offset = off) (hc : P.cellsOf f.type = d.sz) (ho : Opens enc P w base spare held d f.type wf) : OpensF enc P w base spare held d off [f] wf := by
  intro n cs h hl
  obtain ⟨x, hx⟩ := h f (by simp)
  obtain ⟨a, ha, hw⟩ := ho _ _ _ hx
  rw [hoff, hc, List.take_of_length_le (by rw [List.length_drop]; omega)] at ha
  exact ⟨a, ha, hw⟩
theorem opensF_cons {α β : Type} {d : Kd α} {d' : Kd β} {off off' : Nat} {f : Field} {fs : List Field} {wf : α → Prop} {wf' : β → Prop} (hoff : f.offset = off) (hc : P.cellsOf f.type = d.sz) (hoff' : off' = off + d.sz) (ho : Opens enc P w base spare held d f.type wf) (hf : OpensF enc P w base spare held d' off' fs wf') :
    OpensF enc P w base spare held (Kd.pair d d') off (f :: fs) (fun x => wf x.1 ∧ wf' x.2) := by
  intro n cs h hl
  have hl : cs.length = off + (d.sz + d'.sz) := hl
  obtain ⟨x, hx⟩ := h f (by simp)
  obtain ⟨a, ha, hw⟩ := ho _ _ _ hx
  obtain ⟨b, hb, hw'⟩ := hf n cs (fun g hg => h g (by simp [hg])) (by omega)
  rw [hoff, hc] at ha
  refine ⟨(a, b), ⟨_, _, ?_, ha, hb⟩, hw, hw'⟩
  rw [hoff', ← List.drop_drop, List.take_append_drop]
/-- A record. -/
theorem opens_struct {α β : Type} {d : Kd α} {t : TypeId} {fs : Array Field} {wf : α → Prop} (g : β → α) (mk : α → β) (hg : ∀ x, g (mk x) = x) (ht : P.underlying t = some (.struct fs)) (hc : P.cellsOf t = d.sz) (hf : OpensF enc P w base spare held d 0 fs.toList wf) :
    Opens enc P w base spare held (Kd.iso d g) t (fun x => wf (g x)) := by
  intro fuel cs x h
  obtain ⟨xs, n, _, _, hl, hlen, hx⟩ := DataW.trod_struct ht h
  obtain ⟨a, ha, hw⟩ := hf n cs (fun f hf' => by
    obtain ⟨i, hi⟩ := List.mem_iff_getElem?.1 hf'
    rw [Array.getElem?_toList] at hi
    have hi' : i < fs.size := (Array.getElem?_eq_some_iff.1 hi).1
    exact ⟨_, (hx i f hi).trans (List.getElem?_eq_getElem (by rw [hlen]; exact hi'))⟩) (by rw [hl, hc, Nat.zero_add])
  refine ⟨mk a, ?_, ?_⟩
  · show d.K w (g (mk a)) cs
    rw [hg]
    simpa using ha
  · show wf (g (mk a))
    rw [hg]
    exact hw
/-- A slice that came in. -/
theorem Opens.arg {α : Type} {d : Kd α} {t e : TypeId} {wf : List α → Prop} (h : Opens enc P w base spare held (Kd.slice e d) t wf) {fuel : Nat} {v : Value} {x : DataW H × List MemPlace} (hv : DataW.trod enc P w base spare held fuel t v.cells.toList = some x) (hs : ∃ A n c, v = .slice A n c) :
    ∃ A c l, v = .slice A l.length c ∧ l.length ≤ c ∧ d.C w A l.length l ∧ wf l := by
  obtain ⟨l, ⟨A, c, hcs, hlc, hC⟩, hw⟩ := h _ _ _ hv
  obtain ⟨A', n', c', rfl⟩ := hs
  simp [Value.cells] at hcs
  obtain ⟨rfl, rfl, rfl⟩ := hcs
  exact ⟨_, _, l, rfl, hlc, hC, hw⟩
end
end Go.Proofs.Ytjbcpghpafacaaa
