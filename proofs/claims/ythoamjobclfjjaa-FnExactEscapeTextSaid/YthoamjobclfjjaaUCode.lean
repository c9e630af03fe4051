/- What the program's picks of a code come to. No condition. -/
import Derived.Test.YthoamjobclfjjaaXPure
import Derived.Test.YthoamjobclfjjaaR1
namespace Go.Proofs.Ythoamjobclfjjaa.R
set_option linter.unusedVariables false
set_option linter.unusedSimpArgs false
open Go.RowKit Go.Proofs.Ythoamjobclfjjaa Go.Proofs.YthoamjobclfjjaaW.PrintWords Go.Proofs.YthoamjobclfjjaaW.PrintLast
theorem codeIf_eq (b : Bool) (c : Int) : impl_codeIf.f b c = some (if b = true then c else 0) := by
  unfold impl_codeIf.f
  cases b <;> rfl
theorem firstCode_l (l : List Int) (hl : l.length < 1000) : ∀ i, i ≤ l.length → Ev (fun k => impl_firstCode.l0 k l (l.length : Int) (i : Int)) (Pl.firstC (l.drop i)) := by
  refine Pl.loop0 (g := fun k i => impl_firstCode.l0 k l (l.length : Int) i) ?_ ?_
  · refine Ev.step (fun k => by rw [impl_firstCode.l0]) ?_
    simp [Pl.ev_some, Pl.firstC]
  · intro i hi ih
    refine Ev.step (fun k => by rw [impl_firstCode.l0]) ?_
    rw [Pl.drop_get hi]
    have e := Pl.rd_get l i hi
    simp only [Pl.ev_ite, Pl.ev_some, Pl.ev_none, Pl.firstC, e, Pl.wrap_nat (show i < 9223372036854775807 by omega)]
    rw [if_pos (by omega), if_pos (by omega), if_pos (by omega)]
    split
    · exact ih
    · rfl
theorem firstCode_ev (l : List Int) (hl : l.length < 1000) : Ev (fun k => impl_firstCode.f k l) (Pl.firstC l) := firstCode_l l hl 0 (Nat.zero_le _)
end Go.Proofs.Ythoamjobclfjjaa.R
