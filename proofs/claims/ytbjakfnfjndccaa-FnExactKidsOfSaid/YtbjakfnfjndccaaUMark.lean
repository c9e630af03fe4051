/- What the program and the reference say of names, as plain functions: both the same. No condition. -/
import Derived.Test.YtbjakfnfjndccaaUCode
import Derived.Test.YtbjakfnfjndccaaT3
import Derived.Test.YtbjakfnfjndccaaT1
import Derived.Test.YtbjakfnfjndccaaT2
namespace Go.Proofs.Ytbjakfnfjndccaa.T
set_option linter.unusedVariables false
set_option linter.unusedSimpArgs false
open Go.RowKit Go.Proofs.Ytbjakfnfjndccaa Go.Proofs.YtbjakfnfjndccaaW.PrintWords Go.Proofs.YtbjakfnfjndccaaW.PrintLast
theorem l1Name_l {s : ByteArray} {l : List UInt8} (hl : s.data.toList = l) (hs : l.length < 9223372036854775807) : ∀ i, i ≤ l.length → Ev (fun k => spec_l1Name.l0 k s (i : Int)) (bif (l.drop i).all Pl.smallB then (if l = [] then 5 else if l.length > 8 then 2 else 0) else 5) := by
  have hz := Pl.size_l hl
  refine Pl.loop0 (g := fun k i => spec_l1Name.l0 k s i) ?_ ?_
  · refine Ev.step (fun k => by rw [spec_l1Name.l0]) ?_
    simp only [Pl.ev_ite, Pl.ev_some, Pl.toList_l hl, hz, Pl.drop_end, List.all_nil, cond_true]
    rw [if_neg (by omega)]
    split
    · rfl
    · split
      · rw [if_pos (by omega)]
      · rw [if_neg (by omega)]
  · intro i hi ih
    refine Ev.step (fun k => by rw [spec_l1Name.l0]) ?_
    rw [Pl.drop_get hi]
    simp only [Pl.ev_ite, Pl.ev_some, Pl.ev_none, Pl.bt_l hl i hi, hz, Pl.wrap_nat (show i < 9223372036854775807 by omega), List.all_cons]
    rw [if_pos (by omega), if_pos (by omega)]
    by_cases h : Pl.smallB l[i] = true
    · have h' := of_decide_eq_true h
      rw [if_neg (by omega), if_neg (by omega), h, Bool.true_and]
      exact ih
    · have h' : ¬ (97 ≤ (l[i]).toNat ∧ (l[i]).toNat ≤ 122) := fun e => h (decide_eq_true e)
      rw [Bool.not_eq_true] at h
      rw [h, Bool.false_and, cond_false]
      split
      · rfl
      · rw [if_pos (by omega)]
theorem l1Name_ev {s : ByteArray} {l : List UInt8} (hl : s.data.toList = l) (hs : l.length < 9223372036854775807) : Ev (fun k => spec_l1Name.f k s) (Pl.nameC l) := by
  have h := l1Name_l hl hs 0 (Nat.zero_le _)
  unfold spec_l1Name.f
  refine Pl.ev_to h ?_
  rw [List.drop_zero]
  unfold Pl.nameC
  split
  · rename_i h0
    subst h0
    rfl
  · cases l.all Pl.smallB <;> rfl
theorem isSmall_eq (c : UInt8) : impl_isSmall.f (c.toNat : Int) = some (Pl.smallB c) := by
  unfold impl_isSmall.f Pl.smallB
  by_cases h : (c.toNat : Int) ≥ 97
  · rw [if_pos h]; congr 1; rw [decide_eq_decide]; omega
  · rw [if_neg h]; congr 1; rw [eq_comm, decide_eq_false_iff_not]; omega
theorem areSmall_l {s : ByteArray} {l : List UInt8} (hl : s.data.toList = l) (hs : l.length < 9223372036854775807) : ∀ i, i ≤ l.length → Ev (fun k => impl_areAll__impl_isSmall.l0 k s (l.length : Int) (i : Int)) ((l.drop i).all Pl.smallB) := by
  have hz := Pl.size_l hl
  refine Pl.loop0 (g := fun k i => impl_areAll__impl_isSmall.l0 k s (l.length : Int) i) ?_ ?_
  · refine Ev.step (fun k => by rw [impl_areAll__impl_isSmall.l0]) ?_
    simp [Pl.ev_some]
  · intro i hi ih
    refine Ev.step (fun k => by rw [impl_areAll__impl_isSmall.l0]) ?_
    rw [Pl.drop_get hi]
    simp only [Pl.ev_ite, Pl.ev_some, Pl.ev_none, Pl.bt_l hl i hi, hz, isSmall_eq, Option.bind_some, Pl.wrap_nat (show i < 9223372036854775807 by omega), List.all_cons]
    rw [if_pos (by omega), if_pos (by omega), if_pos (by omega)]
    cases h : Pl.smallB l[i]
    · rfl
    · simpa [h] using ih
theorem impl_name {s : ByteArray} {l : List UInt8} (hl : s.data.toList = l) (hs : l.length < 9223372036854775807) : Ev (fun k => impl_NameFault.f k s) (Pl.nameC l) := by
  have hz := Pl.size_l hl
  have h := areSmall_l hl hs 0 (Nat.zero_le _)
  rw [List.drop_zero, ← hz] at h
  unfold impl_NameFault.f
  simp only [codeIf_eq, Option.bind_some, Pl.ev_ite, Pl.toList_l hl]
  unfold Pl.nameC
  split
  · refine Pl.ev_bind' (firstCode_ev _ (by simp)) ?_
    simp [Pl.ev_some, Pl.firstC]
  · refine Pl.ev_bind' h ?_
    refine Pl.ev_bind' (firstCode_ev _ (by simp)) ?_
    simp only [Pl.ev_some, Pl.firstC, hz]
    cases h1 : l.all Pl.smallB
    · simp
    · by_cases h2 : l.length > 8
      · simp [h2]; rw [if_neg (by omega), if_pos (by omega)]
      · simp [h2]; omega
end Go.Proofs.Ytbjakfnfjndccaa.T
