/- What copies and comparisons of numbers, and the check of variables, come to. No condition. -/
import Derived.Test.YtfgidohkkbmfjaaUCode
import Derived.Test.YtfgidohkkbmfjaaQ2
import Derived.Test.YtfgidohkkbmfjaaQ7
import Derived.Test.YtfgidohkkbmfjaaQ4
import Derived.Test.YtfgidohkkbmfjaaQ10
import Derived.Test.YtfgidohkkbmfjaaQ1
namespace Go.Proofs.Ytfgidohkkbmfjaa.Q
set_option linter.unusedVariables false
set_option linter.unusedSimpArgs false
open Go.RowKit Go.Proofs.Ytfgidohkkbmfjaa Go.Proofs.YtfgidohkkbmfjaaW.PrintWords Go.Proofs.YtfgidohkkbmfjaaW.PrintLast
theorem toInts_ev (l : List Int) (hl : l.length ≤ 1048576) : Ev (fun k => laws_toInt64S.f k l) l := by
  unfold laws_toInt64S.f
  simp only [Pl.ev_ite]
  rw [if_pos (by omega), if_pos (by simp; omega)]
  rw [show ((l.length : Int) : Int).toNat = l.length from by omega]
  have := Pl.fill (l := l) (f := fun x => x) (z := (0 : Int)) (g := fun k i acc => laws_toInt64S.l0 k l acc i) (fun acc _ => ?_) (fun i hi acc ha ih => ?_)
  · simpa using this
  · refine Ev.step (fun k => by rw [laws_toInt64S.l0]) ?_
    simp [Pl.ev_some]
  · refine Ev.step (fun k => by rw [laws_toInt64S.l0]) ?_
    simp only [Pl.ev_ite, Pl.ev_some, Pl.ev_none, Pl.rd_get l i hi, Pl.wrap_nat (show i < 9223372036854775807 by omega), Int.toNat_natCast]
    rw [if_pos (by omega), if_pos (by omega), if_pos (by omega)]
    exact ih
theorem eqInts_ev (l : List Int) (hl : l.length ≤ 1048576) : Ev (fun k => laws_eqInt64S.f k l l) true := by
  unfold laws_eqInt64S.f
  simp only [if_true]
  refine Pl.loop0 (n := l.length) (g := fun k i => laws_eqInt64S.l0 k l l i) (F := fun _ => true) ?_ (fun i hi ih => ?_) 0 (Nat.zero_le _)
  · refine Ev.step (fun k => by rw [laws_eqInt64S.l0]) ?_
    simp [Pl.ev_some]
  · refine Ev.step (fun k => by rw [laws_eqInt64S.l0]) ?_
    simp only [Pl.ev_ite, Pl.ev_some, Pl.ev_none, if_true, Pl.wrap_nat (show i < 9223372036854775807 by omega)]
    rw [if_pos (by omega), if_pos (by omega), if_pos (by omega)]
    exact ih
/-- A number within its bounds. -/
def fine (x : Int) : Bool := decide (-1000000 ≤ x ∧ x ≤ 1000000)
theorem in_spec (x : Int) : spec_l1In.f x (-1000000) 1000000 = some (fine x) := by
  unfold spec_l1In.f fine
  by_cases h : x ≥ -1000000
  · rw [if_pos h]; congr 1; rw [decide_eq_decide]; omega
  · rw [if_neg h]; congr 1; rw [eq_comm, decide_eq_false_iff_not]; omega
theorem in_impl (x : Int) : impl_VarsFault_1.f x = some (!fine x) := by
  unfold impl_VarsFault_1.f impl_inRange.f fine
  by_cases h : -1000000 ≤ x
  · rw [if_pos h]; simp [h]
  · rw [if_neg h]; simp [h]
theorem specVars_ev (l : List Int) (hl : l.length ≤ 1048576) : Ev (fun k => spec_VarsFault.f k l) (if l.length = 4 then (bif l.all fine then 0 else 3) else 2) := by
  unfold spec_VarsFault.f
  simp only [Pl.ev_ite]
  by_cases h : l.length = 4
  · rw [if_pos (by omega), if_pos h]
    have := Pl.loop0 (n := l.length) (g := fun k i => spec_VarsFault.l0 k l i) (F := fun i => bif (l.drop i).all fine then 0 else 3) ?_ (fun i hi ih => ?_) 0 (Nat.zero_le _)
    · simpa using this
    · refine Ev.step (fun k => by rw [spec_VarsFault.l0]) ?_
      simp [Pl.ev_some]
    · refine Ev.step (fun k => by rw [spec_VarsFault.l0]) ?_
      simp only [Pl.ev_ite, Pl.ev_none, Pl.rd_get l i hi, in_spec, Option.bind_some, Pl.drop_get hi, List.all_cons, Pl.wrap_nat (show i < 9223372036854775807 by omega)]
      rw [if_pos (by omega), if_pos (by omega)]
      cases h2 : fine l[i]
      · exact Ev.now _
      · simpa [h2] using ih
  · rw [if_neg (by omega), if_neg h]
    exact Ev.now _
theorem contains_ev (l : List Int) (hl : l.length ≤ 1048576) : Ev (fun k => slices_ContainsFunc_int64_int64__impl_VarsFault_1.f k l) (!l.all fine) := by
  unfold slices_ContainsFunc_int64_int64__impl_VarsFault_1.f slices_IndexFunc_int64_int64__impl_VarsFault_1.f
  have := Pl.loop0 (n := l.length) (g := fun k i => (slices_IndexFunc_int64_int64__impl_VarsFault_1.l0 k l (l.length : Int) i).bind fun t => some (decide (t ≥ 0))) (F := fun i => !(l.drop i).all fine) ?_ (fun i hi ih => ?_) 0 (Nat.zero_le _)
  · simpa using this
  · refine Pl.ev_bind' (a := -1) (Ev.step (fun k => by rw [slices_IndexFunc_int64_int64__impl_VarsFault_1.l0]) ?_) (Pl.ev_some.2 ?_)
    · simp [Pl.ev_some]
    · simp
  · refine Ev.step (fun k => by rw [slices_IndexFunc_int64_int64__impl_VarsFault_1.l0]) ?_
    simp only [Pl.rd_get l i hi, in_impl, Option.bind_some, Pl.drop_get hi, List.all_cons, Pl.wrap_nat (show i < 9223372036854775807 by omega)]
    simp only [if_pos (show (i : Int) < (l.length : Int) by omega), if_pos (show (0 : Int) ≤ (i : Int) by omega)]
    cases h2 : fine l[i]
    · simp [Pl.ev_some]
    · simpa [h2] using ih
theorem implVars_ev (l : List Int) (hl : l.length ≤ 1048576) : Ev (fun k => impl_VarsFault.f k l) (if l.length = 4 then (bif l.all fine then 0 else 3) else 2) := by
  unfold impl_VarsFault.f
  refine Pl.ev_bind' (contains_ev l hl) ?_
  simp only [codeIf_eq, Option.bind_some]
  refine Pl.ev_bind' (firstCode_ev _ (by simp)) (Pl.ev_some.2 ?_)
  by_cases h : l.length = 4
  · have e : ((l.length : Int) != 4) = false := by rw [bne_eq_false_iff_eq]; omega
    cases h2 : l.all fine <;> simp [Pl.firstC, e, h]
  · have e : ((l.length : Int) != 4) = true := by rw [bne_iff_ne]; omega
    simp [Pl.firstC, e, h]
/-- The code of variables. -/
def varsC (l : List Int) : Int := if l.length = 4 then (bif l.all fine then 0 else 3) else 2
end Go.Proofs.Ytfgidohkkbmfjaa.Q
