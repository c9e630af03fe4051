-- Written by a program of this session's own (xp.py) for this seat.
import Derived.Test.YthoamjobclfjjaaGreatR10
import Derived.Test.YthoamjobclfjjaaGreatRO
namespace Go.Proofs.YthoamjobclfjjaaGreat.R
open Go.RowKit Go.Proofs.YthoamjobclfjjaaGreatW.PrintWords Go.Proofs.YthoamjobclfjjaaGreatW.PrintLast Go.Proofs.YthoamjobclfjjaaGreatW.PrintMore
attribute [local go_sem] Instr.field asAgg
attribute [local go_sem] max2_int min2_int max_two min_two max_three min_three max_four min_four   -- for this text's walks alone
set_option linter.unusedVariables false
set_option linter.unusedSimpArgs false

/-- The one pure statement of laws_FnExactWriteTree. -/
def laws_FnExactWriteTree.Pure : Prop := ∀ (l0 : List (S35)), (l0.length ≤ 9223372036854775807 ∧ ∀ l0_ ∈ l0, wf35 l0_) → ∃ k, laws_FnExactWriteTree.f k l0 = some true
end Go.Proofs.YthoamjobclfjjaaGreat.R
