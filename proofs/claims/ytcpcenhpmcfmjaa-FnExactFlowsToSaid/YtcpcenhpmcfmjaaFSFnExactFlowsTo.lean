-- Written by a program of this session's own (xp.py) for this seat.
import Derived.Test.YtcpcenhpmcfmjaaF14
import Derived.Test.YtcpcenhpmcfmjaaFO
namespace Go.Proofs.Ytcpcenhpmcfmjaa.F
open Go.RowKit Go.Proofs.YtcpcenhpmcfmjaaW.PrintWords Go.Proofs.YtcpcenhpmcfmjaaW.PrintLast Go.Proofs.YtcpcenhpmcfmjaaW.PrintMore
attribute [local go_sem] Instr.field asAgg
attribute [local go_sem] max2_int min2_int max_two min_two max_three min_three max_four min_four   -- for this text's walks alone
set_option linter.unusedVariables false
set_option linter.unusedSimpArgs false

/-- The one pure statement of laws_FnExactFlowsTo. -/
def laws_FnExactFlowsTo.Pure : Prop := ∀ (a0 : S25) (a1 : Int), wf25 a0 → (Lit.int .i64 a1).wf = true → ∃ k, laws_FnExactFlowsTo.f k (a0.f0) (a0.f1) a1 = some true
end Go.Proofs.Ytcpcenhpmcfmjaa.F
