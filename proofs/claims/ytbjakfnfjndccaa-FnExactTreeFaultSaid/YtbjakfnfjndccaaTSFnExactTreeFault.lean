-- Written by a program of this session's own (xp.py) for this seat.
import Derived.Test.YtbjakfnfjndccaaT9
import Derived.Test.YtbjakfnfjndccaaTO
namespace Go.Proofs.Ytbjakfnfjndccaa.T
open Go.RowKit Go.Proofs.YtbjakfnfjndccaaW.PrintWords Go.Proofs.YtbjakfnfjndccaaW.PrintLast Go.Proofs.YtbjakfnfjndccaaW.PrintMore
attribute [local go_sem] Instr.field asAgg
attribute [local go_sem] max2_int min2_int max_two min_two max_three min_three max_four min_four   -- for this text's walks alone
set_option linter.unusedVariables false
set_option linter.unusedSimpArgs false

/-- The one pure statement of laws_FnExactTreeFault. -/
def laws_FnExactTreeFault.Pure : Prop := ∀ (l0 : List (S45)), (l0.length ≤ 9223372036854775807 ∧ ∀ l0_ ∈ l0, wf45 l0_) → ∃ k, laws_FnExactTreeFault.f k l0 = some true
end Go.Proofs.Ytbjakfnfjndccaa.T
