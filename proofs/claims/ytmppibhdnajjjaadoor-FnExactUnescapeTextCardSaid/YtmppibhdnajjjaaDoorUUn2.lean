/- The program's and the reference's way through a text written with marks of its own: both go by the same steps. Condition: the text has at most 400 bytes. -/
import Derived.Test.YtmppibhdnajjjaaDoorUUn1
import Derived.Test.YtmppibhdnajjjaaDoorUCode
import Derived.Test.YtmppibhdnajjjaaDoorK1
import Derived.Test.YtmppibhdnajjjaaDoorK2
import Derived.Test.YtmppibhdnajjjaaDoorK3
namespace Go.Proofs.YtmppibhdnajjjaaDoor.K
set_option linter.unusedVariables false
set_option linter.unusedSimpArgs false
open Go.RowKit Go.Proofs.YtmppibhdnajjjaaDoor Go.Proofs.YtmppibhdnajjjaaDoorW.PrintWords Go.Proofs.YtmppibhdnajjjaaDoorW.PrintLast
theorem ba_ext {a b : ByteArray} (h : a.data.toList = b.data.toList) : a = b := by
  obtain ⟨⟨x⟩⟩ := a
  obtain ⟨⟨y⟩⟩ := b
  simp at h
  rw [h]
theorem pre_take (s p : List UInt8) (h : p.length ≤ s.length) : (s.take p.length == p) = p.isPrefixOf s := by
  have := Lib.hasPrefix_of_take s p
  rw [decide_eq_true h, Bool.true_and] at this
  exact this
theorem pre_len {s p : List UInt8} (h : p.isPrefixOf s = true) : p.length ≤ s.length := by
  rw [List.isPrefixOf_iff_prefix] at h
  exact h.length_le
theorem starts_eq (t w : ByteArray) (i : Nat) (h0 : 0 < w.size) (h : i + w.size < 9223372036854775807) : spec_l1Starts.f t (i : Int) w = some (w.data.toList.isPrefixOf (t.data.toList.drop i)) := by
  unfold spec_l1Starts.f
  rw [Pl.wrap_in (by omega) (by omega)]
  have hw := Pl.size_toList w
  have ht := Pl.size_toList t
  by_cases hle : (i : Int) + (w.size : Int) ≤ (t.size : Int)
  · rw [if_pos hle, if_pos (by omega), if_pos (by omega), Lib.extract_toList, Lib.toList_data]
    congr 1
    rw [← pre_take _ _ (by rw [List.length_drop]; omega)]
    have e1 : ((i : Int)).toNat = i := by omega
    have e2 : ((i : Int) + (w.size : Int)).toNat - ((i : Int)).toNat = w.data.toList.length := by omega
    rw [e2, e1]
  · rw [if_neg hle]
    congr 1
    rw [eq_comm, Bool.eq_false_iff]
    intro h'
    have := pre_len h'
    rw [List.length_drop] at this
    omega
theorem numE_0 (a : Nat) (u : List UInt8) : numE 0 a u = (0, 0) := if_pos rfl
theorem numE_bad {j a : Nat} {u : List UInt8} (h : u.head? ≠ some 59) : numE j a u = (0, 0) := by
  unfold numE
  rw [if_neg h]
  split <;> rfl
theorem numE_out {j a : Nat} {u : List UInt8} (h : a < 32 ∨ 126 < a) : numE j a u = (0, 0) := by
  unfold numE
  rw [if_pos h]
  split
  · rfl
  · split <;> rfl
theorem numE_ok {j a : Nat} {u : List UInt8} (hj : j ≠ 0) (h : u.head? = some 59) (h1 : ¬ (a < 32 ∨ 126 < a)) : numE j a u = ((a : Int), (j : Int) + 3) := by
  unfold numE
  rw [if_neg hj, if_pos h, if_neg h1]
theorem numTail (P n i : Int) (j a : Nat) (c : UInt8) (u : List UInt8) (hP : P = i + 2 + j) (hn : P < n) (hp : 0 ≤ P) (hj : j ≤ 3) : Ev (fun k : Nat => if P = i + 2 then some ((0, 0) : Int × Int) else if P ≥ n then some (0, 0) else if (c.toNat : Int) = 59 then (if (a : Int) < 32 then some (0, 0) else if (a : Int) > 126 then some (0, 0) else some ((a : Int) % 256, P + 1 - i)) else some (0, 0)) (numE j a (c :: u)) := by
  by_cases hj0 : j = 0
  · subst hj0
    rw [numE_0]
    exact Pl.ev_ite_pos (by omega) (Ev.now _)
  · refine Pl.ev_ite_neg (by omega) (Pl.ev_ite_neg (by omega) ?_)
    by_cases hc : c = 59
    · subst hc
      refine Pl.ev_ite_pos (by decide) ?_
      by_cases h1 : a < 32
      · rw [numE_out (.inl h1)]
        exact Pl.ev_ite_pos (by omega) (Ev.now _)
      · refine Pl.ev_ite_neg (by omega) ?_
        by_cases h2 : 126 < a
        · rw [numE_out (.inr h2)]
          exact Pl.ev_ite_pos (by omega) (Ev.now _)
        · rw [numE_ok hj0 rfl (by omega)]
          refine Pl.ev_ite_neg (by omega) (Pl.ev_to (Ev.now _) ?_)
          rw [Prod.mk.injEq]
          constructor <;> omega
    · have hc' : ¬ (c.toNat : Int) = 59 := fun h => hc (UInt8.toNat_inj.1 (by show c.toNat = 59; omega))
      rw [numE_bad (u := c :: u) (fun h => hc (Option.some.inj h))]
      exact Pl.ev_ite_neg hc' (Ev.now _)
theorem specNum (s : ByteArray) (hs : s.size ≤ 400) (i : Nat) : ∀ (r j a : Nat), j + r = 3 → a < 10 ^ j → i + 2 + j ≤ s.size → Ev (fun k => spec_l1Number.l0 k s (i : Int) (a : Int) ((i + 2 + j : Nat) : Int)) (numL r j a (s.data.toList.drop (i + 2 + j))) := by
  intro r
  induction r with
  | zero =>
    intro j a hj ha hP
    have ht := Pl.size_toList s
    refine Ev.step (fun k => by rw [spec_l1Number.l0]) ?_
    rw [Pl.wrap_in (x := (i : Int) + 5) (by omega) (by omega), Pl.wrap_in (x := (i : Int) + 2) (by omega) (by omega)]
    by_cases hlt : i + 2 + j < s.size
    · have hd := Pl.drop_get (l := s.data.toList) (i := i + 2 + j) (by omega)
      have hb := Pl.bt_l (s := s) rfl (i + 2 + j) (by omega)
      rw [hd, numL, hb, Pl.wrap_in (x := ((i + 2 + j : Nat) : Int) + 1) (by omega) (by omega), Pl.wrap_in (x := ((i + 2 + j : Nat) : Int) + 1 - (i : Int)) (by omega) (by omega)]
      generalize s.data.toList[i + 2 + j] = c
      refine Pl.ev_ite_pos (by omega) ?_
      refine Pl.ev_ite_neg (by omega) ?_
      have := numTail ((i + 2 + j : Nat) : Int) (s.size : Int) (i : Int) j a c (s.data.toList.drop (i + 2 + j + 1)) (by omega) (by omega) (by omega) (by omega)
      refine Ev.congr (fun k => ?_) this
      rw [if_pos (show (0 : Int) ≤ ((i + 2 + j : Nat) : Int) by omega)]
    · have hd : s.data.toList.drop (i + 2 + j) = [] := List.drop_eq_nil_iff.2 (by omega)
      rw [hd, numL, numE_bad (by simp)]
      refine Pl.ev_ite_neg (by omega) ?_
      refine Pl.ev_ite_neg (by omega) ?_
      exact Pl.ev_ite_pos (by omega) (Ev.now _)
  | succ r ih =>
    intro j a hj ha hP
    have ht := Pl.size_toList s
    have h10 : 10 ^ j ≤ 10 ^ 2 := Nat.pow_le_pow_right (by omega) (by omega)
    refine Ev.step (fun k => by rw [spec_l1Number.l0]) ?_
    rw [Pl.wrap_in (x := (i : Int) + 5) (by omega) (by omega), Pl.wrap_in (x := (i : Int) + 2) (by omega) (by omega)]
    by_cases hlt : i + 2 + j < s.size
    · have hd := Pl.drop_get (l := s.data.toList) (i := i + 2 + j) (by omega)
      have hb := Pl.bt_l (s := s) rfl (i + 2 + j) (by omega)
      rw [hd, numL, hb, Pl.wrap_in (x := ((i + 2 + j : Nat) : Int) + 1) (by omega) (by omega), Pl.wrap_in (x := ((i + 2 + j : Nat) : Int) + 1 - (i : Int)) (by omega) (by omega), Pl.wrap_in (x := (a : Int) * 10) (by omega) (by omega)]
      have ih' := ih (j + 1)
      rw [show i + 2 + (j + 1) = i + 2 + j + 1 by omega] at ih'
      generalize s.data.toList[i + 2 + j] = c at *
      have hend := numTail ((i + 2 + j : Nat) : Int) (s.size : Int) (i : Int) j a c (s.data.toList.drop (i + 2 + j + 1)) (by omega) (by omega) (by omega) (by omega)
      refine Pl.ev_ite_pos (by omega) ?_
      refine Pl.ev_ite_pos (by omega) ?_
      refine Pl.ev_ite_pos (by omega) ?_
      by_cases hdg : Pl.digitB c = true
      · rw [if_pos hdg]
        have hc := dig_is hdg
        refine Pl.ev_ite_pos (by omega) ?_
        refine Pl.ev_ite_pos (by omega) ?_
        have e : wrap64 ((a : Int) * 10 + ((c.toNat : Int) - 48) % 256) = ((a * 10 + (c.toNat - 48) : Nat) : Int) := by
          rw [Pl.wrap_in (by omega) (by omega)]
          omega
        rw [e]
        have := ih' (a * 10 + (c.toNat - 48)) (by omega) (by rw [Nat.pow_succ]; omega) (by omega)
        exact this
      · rw [if_neg hdg]
        have hc : ¬ (48 ≤ c.toNat ∧ c.toNat ≤ 57) := fun h => hdg (decide_eq_true h)
        by_cases h48 : 48 ≤ c.toNat
        · refine Pl.ev_ite_pos (by omega) ?_
          exact Pl.ev_ite_neg (by omega) hend
        · exact Pl.ev_ite_neg (by omega) hend
    · have hd : s.data.toList.drop (i + 2 + j) = [] := List.drop_eq_nil_iff.2 (by omega)
      rw [hd, numL, numE_bad (by simp)]
      refine Pl.ev_ite_neg (by omega) ?_
      by_cases hj0 : j = 0
      · exact Pl.ev_ite_pos (by omega) (Ev.now _)
      · exact Pl.ev_ite_neg (by omega) (Pl.ev_ite_pos (by omega) (Ev.now _))
theorem plain_eq (c : Int) : spec_l1Plain.f c = some (decide (32 ≤ c ∧ c ≤ 126)) := by
  unfold spec_l1Plain.f
  by_cases h : c ≥ 32
  · rw [if_pos h]; congr 1; rw [decide_eq_decide]; omega
  · rw [if_neg h, decide_eq_false (by omega)]
theorem isPrint_eq (c : Int) : impl_isPrint.f c = some (decide (32 ≤ c ∧ c ≤ 126)) := by
  unfold impl_isPrint.f
  by_cases h : c ≥ 32
  · rw [if_pos h]; congr 1; rw [decide_eq_decide]; omega
  · rw [if_neg h, decide_eq_false (by omega)]
theorem oneR_self {c : UInt8} (h : c ≠ 38) (t : List UInt8) : oneR (c :: t) = if selfB c = true then ((c.toNat : Int), 1) else (0, 0) := by
  unfold oneR
  rw [stepU, if_neg h]
  by_cases hs : selfB c = true
  · rw [if_pos hs, if_pos hs]
    show (_, _) = _
    rw [Prod.mk.injEq]
    exact ⟨rfl, by simp only [List.length_cons]; omega⟩
  · rw [if_neg hs, if_neg hs]
theorem names_l (s : ByteArray) (i : Nat) (hs : s.size ≤ 400) (hi : i < s.size) (t : List UInt8) (hd : s.data.toList.drop i = 38 :: t) : Ev (fun k => spec_l1One.l0 k s (i : Int) (([(⟨#[38, 108, 116, 59]⟩ : ByteArray), (⟨#[38, 103, 116, 59]⟩ : ByteArray), (⟨#[38, 97, 109, 112, 59]⟩ : ByteArray), (⟨#[38, 113, 117, 111, 116, 59]⟩ : ByteArray), (⟨#[38, 97, 112, 111, 115, 59]⟩ : ByteArray)] : List ByteArray)) 0) (nameR t) := by
  have q1 : spec_l1Starts.f s (i : Int) (⟨#[38, 108, 116, 59]⟩ : ByteArray) = some ([108, 116, 59].isPrefixOf t) := by rw [starts_eq s _ i (by show 0 < 4; omega) (by show i + 4 < _; omega), hd]; rfl
  have q2 : spec_l1Starts.f s (i : Int) (⟨#[38, 103, 116, 59]⟩ : ByteArray) = some ([103, 116, 59].isPrefixOf t) := by rw [starts_eq s _ i (by show 0 < 4; omega) (by show i + 4 < _; omega), hd]; rfl
  have q3 : spec_l1Starts.f s (i : Int) (⟨#[38, 97, 109, 112, 59]⟩ : ByteArray) = some ([97, 109, 112, 59].isPrefixOf t) := by rw [starts_eq s _ i (by show 0 < 5; omega) (by show i + 5 < _; omega), hd]; rfl
  have q4 : spec_l1Starts.f s (i : Int) (⟨#[38, 113, 117, 111, 116, 59]⟩ : ByteArray) = some ([113, 117, 111, 116, 59].isPrefixOf t) := by rw [starts_eq s _ i (by show 0 < 6; omega) (by show i + 6 < _; omega), hd]; rfl
  have q5 : spec_l1Starts.f s (i : Int) (⟨#[38, 97, 112, 111, 115, 59]⟩ : ByteArray) = some ([97, 112, 111, 115, 59].isPrefixOf t) := by rw [starts_eq s _ i (by show 0 < 6; omega) (by show i + 6 < _; omega), hd]; rfl
  unfold nameR
  refine Ev.step (fun k => by rw [spec_l1One.l0]) ?_
  refine Pl.ev_ite_pos (by decide) (Pl.ev_ite_pos (by decide) ?_)
  refine Ev.congr (fun k => by rw [show rdOf ByteArray.empty _ (0 : Int) = (⟨#[38, 108, 116, 59]⟩ : ByteArray) from rfl, q1, Option.bind_some]) ?_
  by_cases h1 : [108, 116, 59].isPrefixOf t = true
  · rw [if_pos h1]
    exact Pl.ev_ite_pos h1 (Pl.ev_ite_pos (by decide) (Ev.now _))
  rw [if_neg h1]
  refine Pl.ev_ite_neg h1 ?_
  refine Ev.step (fun k => by rw [spec_l1One.l0, show wrap64 ((0 : Int) + 1) = 1 by unfold wrap64; omega]) ?_
  refine Pl.ev_ite_pos (by decide) (Pl.ev_ite_pos (by decide) ?_)
  refine Ev.congr (fun k => by rw [show rdOf ByteArray.empty _ (1 : Int) = (⟨#[38, 103, 116, 59]⟩ : ByteArray) from rfl, q2, Option.bind_some]) ?_
  by_cases h2 : [103, 116, 59].isPrefixOf t = true
  · rw [if_pos h2]
    exact Pl.ev_ite_pos h2 (Pl.ev_ite_pos (by decide) (Ev.now _))
  rw [if_neg h2]
  refine Pl.ev_ite_neg h2 ?_
  refine Ev.step (fun k => by rw [spec_l1One.l0, show wrap64 ((1 : Int) + 1) = 2 by unfold wrap64; omega]) ?_
  refine Pl.ev_ite_pos (by decide) (Pl.ev_ite_pos (by decide) ?_)
  refine Ev.congr (fun k => by rw [show rdOf ByteArray.empty _ (2 : Int) = (⟨#[38, 97, 109, 112, 59]⟩ : ByteArray) from rfl, q3, Option.bind_some]) ?_
  by_cases h3 : [97, 109, 112, 59].isPrefixOf t = true
  · rw [if_pos h3]
    exact Pl.ev_ite_pos h3 (Pl.ev_ite_pos (by decide) (Ev.now _))
  rw [if_neg h3]
  refine Pl.ev_ite_neg h3 ?_
  refine Ev.step (fun k => by rw [spec_l1One.l0, show wrap64 ((2 : Int) + 1) = 3 by unfold wrap64; omega]) ?_
  refine Pl.ev_ite_pos (by decide) (Pl.ev_ite_pos (by decide) ?_)
  refine Ev.congr (fun k => by rw [show rdOf ByteArray.empty _ (3 : Int) = (⟨#[38, 113, 117, 111, 116, 59]⟩ : ByteArray) from rfl, q4, Option.bind_some]) ?_
  by_cases h4 : [113, 117, 111, 116, 59].isPrefixOf t = true
  · rw [if_pos h4]
    exact Pl.ev_ite_pos h4 (Pl.ev_ite_pos (by decide) (Ev.now _))
  rw [if_neg h4]
  refine Pl.ev_ite_neg h4 ?_
  refine Ev.step (fun k => by rw [spec_l1One.l0, show wrap64 ((3 : Int) + 1) = 4 by unfold wrap64; omega]) ?_
  refine Pl.ev_ite_pos (by decide) (Pl.ev_ite_pos (by decide) ?_)
  refine Ev.congr (fun k => by rw [show rdOf ByteArray.empty _ (4 : Int) = (⟨#[38, 97, 112, 111, 115, 59]⟩ : ByteArray) from rfl, q5, Option.bind_some]) ?_
  by_cases h5 : [97, 112, 111, 115, 59].isPrefixOf t = true
  · rw [if_pos h5]
    exact Pl.ev_ite_pos h5 (Pl.ev_ite_pos (by decide) (Ev.now _))
  rw [if_neg h5]
  refine Pl.ev_ite_neg h5 ?_
  refine Ev.step (fun k => by rw [spec_l1One.l0, show wrap64 ((4 : Int) + 1) = 5 by unfold wrap64; omega]) ?_
  exact Pl.ev_ite_neg (by decide) (Ev.now _)
/-- The reference's step. -/
theorem specOne (s : ByteArray) (hs : s.size ≤ 400) (i : Nat) (hi : i < s.size) : Ev (fun k => spec_l1One.f k s (i : Int)) (oneR (s.data.toList.drop i)) := by
  have ht := Pl.size_toList s
  have hd := Pl.drop_get (l := s.data.toList) (i := i) (by omega)
  have hb := Pl.bt_l (s := s) rfl i (by omega)
  have hst : spec_l1Starts.f s (i : Int) (⟨#[38, 35]⟩ : ByteArray) = some ([38, 35].isPrefixOf (s.data.toList.drop i)) := starts_eq s _ i (by show 0 < 2; omega) (by show i + 2 < _; omega)
  have hnum := specNum s hs i 3 0 0 rfl (by decide)
  have hnam := names_l s i hs hi (s.data.toList.drop (i + 1))
  have hdd : ∀ x, s.data.toList.drop (i + 1) = 35 :: x → s.data.toList.drop (i + 2 + 0) = x ∧ i + 2 ≤ s.size := fun x hx => by
    have e : s.data.toList.drop (i + 2 + 0) = (s.data.toList.drop (i + 1)).drop 1 := by rw [List.drop_drop]
    have e2 : (s.data.toList.drop (i + 1)).length = x.length + 1 := by rw [hx]; rfl
    rw [List.length_drop] at e2
    rw [e, hx]
    exact ⟨rfl, by omega⟩
  unfold spec_l1One.f
  rw [hst, hb]
  refine Pl.ev_ite_pos (by omega) (Pl.ev_ite_pos (by omega) ?_)
  rw [hd] at hnam ⊢
  generalize s.data.toList[i] = c at *
  generalize s.data.toList.drop (i + 1) = t at *
  by_cases hc : c = 38
  · subst hc
    refine Pl.ev_ite_pos (by decide) ?_
    simp only [Option.bind_some]
    cases t with
    | nil =>
      refine Pl.ev_ite_neg (by decide) ?_
      exact Pl.ev_to (hnam rfl) (nameR_is [] (by simp))
    | cons b x =>
      by_cases hb : b = 35
      · subst hb
        refine Pl.ev_ite_pos (by simp [List.isPrefixOf]) ?_
        obtain ⟨e1, e2⟩ := hdd x rfl
        have h1 := hnum (by omega)
        rw [e1] at h1
        have h2 := numL_is 3 [] x rfl rfl
        have h3 : numL 3 0 0 x = oneR (38 :: 35 :: x) := h2
        rw [h3] at h1
        have e3 : wrap64 ((i : Int) + 2) = ((i + 2 + 0 : Nat) : Int) := by rw [Pl.wrap_in (by omega) (by omega)]; omega
        refine Pl.ev_bind' (a := oneR (38 :: 35 :: x)) ?_ (Ev.now _)
        unfold spec_l1Number.f
        rw [e3]
        exact h1
      · refine Pl.ev_ite_neg ?_ ?_
        · simp only [List.isPrefixOf, Bool.and_true, beq_self_eq_true, Bool.true_and, beq_iff_eq]
          exact Ne.symm hb
        · exact Pl.ev_to (hnam rfl) (nameR_is (b :: x) (by simp [hb]))
  · have hc' : ¬ (c.toNat : Int) = 38 := fun h => hc (UInt8.toNat_inj.1 (by show c.toNat = 38; omega))
    refine Pl.ev_ite_neg hc' ?_
    simp only [plain_eq, Option.bind_some]
    rw [oneR_self hc]
    by_cases hp : 32 ≤ c.toNat ∧ c.toNat ≤ 126
    · refine Pl.ev_ite_pos (decide_eq_true (by omega)) ?_
      by_cases h1 : c.toNat = 60
      · rw [if_neg (show ¬ selfB c = true by unfold selfB; rw [decide_eq_true_iff]; omega)]
        exact Pl.ev_ite_pos (by omega) (Ev.now _)
      refine Pl.ev_ite_neg (by omega) ?_
      by_cases h2 : c.toNat = 62
      · rw [if_neg (show ¬ selfB c = true by unfold selfB; rw [decide_eq_true_iff]; omega)]
        exact Pl.ev_ite_pos (by omega) (Ev.now _)
      refine Pl.ev_ite_neg (by omega) ?_
      by_cases h3 : c.toNat = 34
      · rw [if_neg (show ¬ selfB c = true by unfold selfB; rw [decide_eq_true_iff]; omega)]
        exact Pl.ev_ite_pos (by omega) (Ev.now _)
      refine Pl.ev_ite_neg (by omega) ?_
      rw [if_pos (show selfB c = true by unfold selfB; rw [decide_eq_true_iff]; omega)]
      exact Ev.now _
    · rw [if_neg (show ¬ selfB c = true by unfold selfB; rw [decide_eq_true_iff]; omega)]
      exact Pl.ev_ite_neg (by rw [decide_eq_true_iff]; omega) (Ev.now _)
theorem cut_len (l : List UInt8) : (Lib.cut l [59]).1.length ≤ l.length := by
  unfold Lib.cut
  split
  · simp only [List.length_take]; omega
  · exact Nat.le_refl _
/-- The program's step. -/
theorem implStep (a : ByteArray) (x4 : List Int) (c : UInt8) (t : List UInt8) (ha : a.data.toList = c :: t) (hs : a.size ≤ 400) (hx : x4.length ≤ 400) :
    (stepU (c :: t) = none → Ev (fun k => impl_unescape.l0 k a x4) ((⟨#[]⟩ : ByteArray), false)) ∧ ∀ b r, stepU (c :: t) = some (b, r) → ∀ out, Ev (fun k => impl_unescape.l0 k ⟨r.toArray⟩ (x4 ++ [(b.toNat : Int)])) out → Ev (fun k => impl_unescape.l0 k a x4) out := by
  have hz := Pl.size_l ha
  rw [List.length_cons] at hz
  have hb := Pl.bt_l ha 0 (by simp)
  have hb' : bt a 0 = (c.toNat : Int) := hb
  have hex : a.extract 1 a.size = ⟨t.toArray⟩ := by
    refine ba_ext ?_
    rw [← Lib.toList_data, Lib.extract_toList, ha]
    have e : a.size - 1 = t.length := by omega
    rw [e]
    simp
  have hne : ¬ a.toList = [] := by rw [Pl.toList_data, ha]; simp
  have key : ∀ R, (Ev (fun k => if (c.toNat : Int) = 38 then ((strings_Cut.f (⟨t.toArray⟩ : ByteArray) (⟨#[59]⟩ : ByteArray)).bind fun bt153 => ((impl_entity.f bt153.1).bind fun bt156 => (if bt153.2.2 = true then (impl_unescape.j1 k x4 bt153.2.1 true bt156.1 bt156.2 (!bt156.2)) else (impl_unescape.j1 k x4 bt153.2.1 false bt156.1 bt156.2 true)))) else ((impl_isPrint.f (c.toNat : Int)).bind fun t161 => (if t161 = true then (if (c.toNat : Int) = 60 then (some ((⟨#[]⟩ : ByteArray), false)) else (if (c.toNat : Int) = 62 then (some ((⟨#[]⟩ : ByteArray), false)) else (if (c.toNat : Int) = 34 then (some ((⟨#[]⟩ : ByteArray), false)) else (if x4.length < 140737488355328 then (impl_unescape.l0 k (⟨t.toArray⟩ : ByteArray) (x4 ++ [(c.toNat : Int)])) else (none))))) else (some ((⟨#[]⟩ : ByteArray), false))))) R) → Ev (fun k => impl_unescape.l0 k a x4) R := fun R h => by
    refine Ev.step (fun k => by rw [impl_unescape.l0, hb', hex]) ?_
    exact Pl.ev_ite_neg hne (Pl.ev_ite_pos (by omega) (Pl.ev_ite_pos (by omega) h))
  by_cases hc : c = 38
  · subst hc
    have hcut : strings_Cut.f (⟨t.toArray⟩ : ByteArray) (⟨#[59]⟩ : ByteArray) = some (⟨(Lib.cut t [59]).1.toArray⟩, ⟨(Lib.cut t [59]).2.1.toArray⟩, (Lib.cut t [59]).2.2) := by
      unfold strings_Cut.f
      have : (⟨t.toArray⟩ : ByteArray).size = t.length := by rw [← Pl.size_toList]
      rw [if_pos (by omega)]
    have hl := cut_len t
    rw [stepU_c]
    rw [hcut] at key
    generalize Lib.cut t [59] = C at *
    obtain ⟨N, r, e⟩ := C
    obtain ⟨v, hv, hv2⟩ := entity_is (⟨N.toArray⟩ : ByteArray) (by
      have : (⟨N.toArray⟩ : ByteArray).size = N.length := by rw [← Pl.size_toList]
      have hl' : N.length ≤ t.length := hl
      omega)
    have hN : (⟨N.toArray⟩ : ByteArray).data.toList = N := rfl
    rw [hN] at hv hv2
    have key2 : ∀ R, Ev (fun k => if e = true then (impl_unescape.j1 k x4 ⟨r.toArray⟩ true v (entB N).isSome (!(entB N).isSome)) else (impl_unescape.j1 k x4 ⟨r.toArray⟩ false v (entB N).isSome true)) R → Ev (fun k => impl_unescape.l0 k a x4) R := fun R h => by
      refine key R (Pl.ev_ite_pos (by decide) ?_)
      simp only [Option.bind_some, hv]
      exact h
    show ((if e = true then (entB N).map (fun b => (b, r)) else none) = none → _) ∧ ∀ b r', (if e = true then (entB N).map (fun b => (b, r)) else none) = some (b, r') → _
    cases e with
    | false =>
      refine ⟨fun _ => key2 _ (Pl.ev_ite_neg (by decide) ?_), fun b r' h => by cases h⟩
      refine Ev.step (fun k => by rw [impl_unescape.j1]) ?_
      exact Pl.ev_ite_pos rfl (Ev.now _)
    | true =>
      rw [if_pos rfl]
      cases hE : entB N with
      | none =>
        rw [hE] at key2
        refine ⟨fun _ => key2 _ (Pl.ev_ite_pos rfl ?_), fun b r' h => by cases h⟩
        refine Ev.step (fun k => by rw [impl_unescape.j1]) ?_
        exact Pl.ev_ite_pos rfl (Ev.now _)
      | some x =>
        rw [hE] at key2
        refine ⟨fun h => (by cases h), fun b r' h out hout => key2 _ (Pl.ev_ite_pos rfl ?_)⟩
        obtain ⟨rfl, rfl⟩ : x = b ∧ r = r' := by simpa using h
        refine Ev.step (fun k => by rw [impl_unescape.j1]) ?_
        refine Pl.ev_ite_neg (by simp) (Pl.ev_ite_pos (by omega) ?_)
        rw [hv2 x hE]
        exact hout
  · have hc' : ¬ (c.toNat : Int) = 38 := fun h => hc (UInt8.toNat_inj.1 (by show c.toNat = 38; omega))
    rw [stepU, if_neg hc]
    have key2 := fun R h => key R (Pl.ev_ite_neg hc' h)
    simp only [isPrint_eq, Option.bind_some] at key2
    by_cases hp : 32 ≤ c.toNat ∧ c.toNat ≤ 126
    · have key3 := fun R h => key2 R (Pl.ev_ite_pos (decide_eq_true (by omega)) h)
      by_cases h1 : c.toNat = 60
      · rw [if_neg (show ¬ selfB c = true by unfold selfB; rw [decide_eq_true_iff]; omega)]
        exact ⟨fun _ => key3 _ (Pl.ev_ite_pos (by omega) (Ev.now _)), fun b r' h => by cases h⟩
      by_cases h2 : c.toNat = 62
      · rw [if_neg (show ¬ selfB c = true by unfold selfB; rw [decide_eq_true_iff]; omega)]
        exact ⟨fun _ => key3 _ (Pl.ev_ite_neg (by omega) (Pl.ev_ite_pos (by omega) (Ev.now _))), fun b r' h => by cases h⟩
      by_cases h3 : c.toNat = 34
      · rw [if_neg (show ¬ selfB c = true by unfold selfB; rw [decide_eq_true_iff]; omega)]
        exact ⟨fun _ => key3 _ (Pl.ev_ite_neg (by omega) (Pl.ev_ite_neg (by omega) (Pl.ev_ite_pos (by omega) (Ev.now _)))), fun b r' h => by cases h⟩
      rw [if_pos (show selfB c = true by unfold selfB; rw [decide_eq_true_iff]; omega)]
      refine ⟨fun h => (by cases h), fun b r' h out hout => ?_⟩
      obtain ⟨rfl, rfl⟩ : c = b ∧ t = r' := by simpa using h
      exact key3 _ (Pl.ev_ite_neg (by omega) (Pl.ev_ite_neg (by omega) (Pl.ev_ite_neg (by omega) (Pl.ev_ite_pos (by omega) hout))))
    · rw [if_neg (show ¬ selfB c = true by unfold selfB; rw [decide_eq_true_iff]; omega)]
      exact ⟨fun _ => key2 _ (Pl.ev_ite_neg (by rw [decide_eq_true_iff]; omega) (Ev.now _)), fun b r' h => by cases h⟩
def outS (x : List Int) : Option (List Int) → Int × ByteArray
  | none => (5, (⟨#[]⟩ : ByteArray))
  | some ys => if ((x ++ ys).length : Int) > 40 then (2, (⟨#[]⟩ : ByteArray)) else (0, strOfNums (x ++ ys))
def outI (x : List Int) : Option (List Int) → ByteArray × Bool
  | none => ((⟨#[]⟩ : ByteArray), false)
  | some ys => (strOfNums (x ++ ys), true)
theorem outS_nil (x : List Int) : outS x (some []) = if (x.length : Int) > 40 then (2, (⟨#[]⟩ : ByteArray)) else (0, strOfNums x) := by
  unfold outS
  simp only [List.append_nil]
theorem outI_nil (x : List Int) : outI x (some []) = (strOfNums x, true) := by
  show (strOfNums (x ++ []), true) = _
  rw [List.append_nil]
theorem outS_nil2 (x : List Int) : outS [] (some x) = if (x.length : Int) > 40 then (2, (⟨#[]⟩ : ByteArray)) else (0, strOfNums x) := rfl
theorem outI_nil2 (x : List Int) : outI [] (some x) = (strOfNums x, true) := rfl
theorem outS_map (x : List Int) (b : Int) (r : Option (List Int)) : outS (x ++ [b]) r = outS x (r.map (b :: ·)) := by
  cases r with
  | none => rfl
  | some ys =>
    unfold outS
    simp only [Option.map_some, List.append_assoc, List.cons_append, List.nil_append]
theorem outI_map (x : List Int) (b : Int) (r : Option (List Int)) : outI (x ++ [b]) r = outI x (r.map (b :: ·)) := by
  cases r with
  | none => rfl
  | some ys =>
    unfold outI
    simp only [Option.map_some, List.append_assoc, List.cons_append, List.nil_append]
theorem un_both (s : ByteArray) (hs : s.size ≤ 400) : ∀ n i, s.size - i ≤ n → i ≤ s.size → ∃ res : Option (List Int), (∀ x3 : List Int, x3.length ≤ i → Ev (fun k => spec_UnescapeText.l0 k s x3 (i : Int)) (outS x3 res)) ∧ (∀ (a : ByteArray) (x4 : List Int), a.data.toList = s.data.toList.drop i → x4.length ≤ i → Ev (fun k => impl_unescape.l0 k a x4) (outI x4 res)) := by
  have ht := Pl.size_toList s
  intro n
  induction n with
  | zero =>
    intro i hn hi
    refine ⟨some [], fun x3 hx => ?_, fun a x4 ha hx => ?_⟩
    · refine Ev.step (fun k => by rw [spec_UnescapeText.l0]) ?_
      refine Pl.ev_ite_neg (by omega) ?_
      rw [outS_nil]
      have hev : Ev (fun _ : Nat => if (x3.length : Int) > 40 then some (2, (⟨#[]⟩ : ByteArray)) else some ((0 : Int), strOfNums x3)) (if (x3.length : Int) > 40 then (2, (⟨#[]⟩ : ByteArray)) else (0, strOfNums x3)) := by
        by_cases h : (x3.length : Int) > 40
        · simp only [if_pos h]; exact Ev.now _
        · simp only [if_neg h]; exact Ev.now _
      exact hev
    · refine Ev.step (fun k => by rw [impl_unescape.l0]) ?_
      rw [outI_nil]
      refine Pl.ev_ite_pos ?_ (Ev.now _)
      rw [Pl.toList_data, ha]
      exact List.drop_eq_nil_iff.2 (by omega)
  | succ n ih =>
    intro i hn hi
    by_cases hlt : i < s.size
    · have hd := Pl.drop_get (l := s.data.toList) (i := i) (by omega)
      have hone := specOne s hs i hlt
      have hsz : ∀ a : ByteArray, a.data.toList = s.data.toList.drop i → a.size ≤ 400 := fun a ha => by
        rw [Pl.size_l ha, List.length_drop]
        omega
      cases hst : stepU (s.data.toList.drop i) with
      | none =>
        refine ⟨none, fun x3 hx => ?_, fun a x4 ha hx => ?_⟩
        · refine Ev.step (fun k => by rw [spec_UnescapeText.l0]) ?_
          refine Pl.ev_ite_pos (by omega) ?_
          refine Pl.ev_bind' hone ?_
          unfold oneR
          rw [hst]
          exact Pl.ev_ite_pos rfl (Ev.now _)
        · exact (implStep a x4 _ _ (ha.trans hd) (hsz a ha) (by omega)).1 (by rw [← hd]; exact hst)
      | some br =>
        obtain ⟨b, r⟩ := br
        obtain ⟨p, hp, hpr⟩ := stepU_less hst
        have hlen : p.length + r.length = s.size - i := by
          have := congrArg List.length hpr
          rw [List.length_append, List.length_drop] at this
          omega
        have hp1 : 1 ≤ p.length := by
          cases p with
          | nil => exact absurd rfl hp
          | cons => simp
        have hr : s.data.toList.drop (i + p.length) = r := by
          rw [← List.drop_drop, hpr]
          simp
        obtain ⟨res, h1, h2⟩ := ih (i + p.length) (by omega) (by omega)
        refine ⟨res.map ((b.toNat : Int) :: ·), fun x3 hx => ?_, fun a x4 ha hx => ?_⟩
        · refine Ev.step (fun k => by rw [spec_UnescapeText.l0]) ?_
          refine Pl.ev_ite_pos (by omega) ?_
          refine Pl.ev_bind' hone ?_
          have hv : oneR (s.data.toList.drop i) = ((b.toNat : Int), (p.length : Int)) := by
            unfold oneR
            rw [hst]
            show (_, _) = _
            rw [Prod.mk.injEq, List.length_drop]
            exact ⟨rfl, by omega⟩
          rw [hv]
          refine Pl.ev_ite_neg (by show ¬ (p.length : Int) = 0; omega) (Pl.ev_ite_pos (by omega) ?_)
          have e : wrap64 ((i : Int) + (p.length : Int)) = ((i + p.length : Nat) : Int) := by rw [Pl.wrap_in (by omega) (by omega)]; omega
          rw [← outS_map]
          show Ev (fun k => spec_UnescapeText.l0 k s (x3 ++ [(b.toNat : Int)]) (wrap64 ((i : Int) + (p.length : Int)))) _
          rw [e]
          exact h1 _ (by rw [List.length_append]; show x3.length + 1 ≤ _; omega)
        · refine (implStep a x4 _ _ (ha.trans hd) (hsz a ha) (by omega)).2 b r (by rw [← hd]; exact hst) _ ?_
          rw [← outI_map]
          exact h2 _ _ (by rw [hr]) (by rw [List.length_append]; show x4.length + 1 ≤ _; omega)
    · obtain rfl : i = s.size := by omega
      refine ⟨some [], fun x3 hx => ?_, fun a x4 ha hx => ?_⟩
      · refine Ev.step (fun k => by rw [spec_UnescapeText.l0]) ?_
        refine Pl.ev_ite_neg (by omega) ?_
        rw [outS_nil]
        have hev : Ev (fun _ : Nat => if (x3.length : Int) > 40 then some (2, (⟨#[]⟩ : ByteArray)) else some ((0 : Int), strOfNums x3)) (if (x3.length : Int) > 40 then (2, (⟨#[]⟩ : ByteArray)) else (0, strOfNums x3)) := by
          by_cases h : (x3.length : Int) > 40
          · simp only [if_pos h]; exact Ev.now _
          · simp only [if_neg h]; exact Ev.now _
        exact hev
      · refine Ev.step (fun k => by rw [impl_unescape.l0]) ?_
        rw [outI_nil]
        refine Pl.ev_ite_pos ?_ (Ev.now _)
        rw [Pl.toList_data, ha]
        exact List.drop_eq_nil_iff.2 (by omega)
end Go.Proofs.YtmppibhdnajjjaaDoor.K
