-- Written by a program of this session's own (xp.py) for this seat.
import Derived.Test.YtcpcenhpmcfmjaaL21
import Derived.Test.YtcpcenhpmcfmjaaLO
namespace Go.Proofs.Ytcpcenhpmcfmjaa.L
open Go.RowKit Go.Proofs.YtcpcenhpmcfmjaaW.PrintWords Go.Proofs.YtcpcenhpmcfmjaaW.PrintLast Go.Proofs.YtcpcenhpmcfmjaaW.PrintMore
attribute [local go_sem] Instr.field asAgg
attribute [local go_sem] max2_int min2_int max_two min_two max_three min_three max_four min_four   -- for this text's walks alone
set_option linter.unusedVariables false
set_option linter.unusedSimpArgs false

/-- The one pure statement of laws_FnExactStepsUnder. -/
def laws_FnExactStepsUnder.Pure : Prop := ∀ (l0 : List (S75)) (a1 : Int), (l0.length ≤ 9223372036854775807 ∧ ∀ l0_ ∈ l0, wf75 l0_) → (Lit.int .i64 a1).wf = true → ∃ k, laws_FnExactStepsUnder.f k l0 a1 = some true
end Go.Proofs.Ytcpcenhpmcfmjaa.L
