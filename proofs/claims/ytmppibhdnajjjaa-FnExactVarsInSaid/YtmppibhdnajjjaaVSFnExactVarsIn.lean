-- Written by a program of this session's own (xp.py) for this seat.
import Derived.Test.YtmppibhdnajjjaaV8
import Derived.Test.YtmppibhdnajjjaaVO
namespace Go.Proofs.Ytmppibhdnajjjaa.V
open Go.RowKit Go.Proofs.YtmppibhdnajjjaaW.PrintWords Go.Proofs.YtmppibhdnajjjaaW.PrintLast Go.Proofs.YtmppibhdnajjjaaW.PrintMore
attribute [local go_sem] Instr.field asAgg
attribute [local go_sem] max2_int min2_int max_two min_two max_three min_three max_four min_four   -- for this text's walks alone
set_option linter.unusedVariables false
set_option linter.unusedSimpArgs false

/-- The one pure statement of laws_FnExactVarsIn. -/
def laws_FnExactVarsIn.Pure : Prop := ∀ (l0 : List (S72)), (l0.length ≤ 9223372036854775807 ∧ ∀ l0_ ∈ l0, wf72 l0_) → ∃ k, laws_FnExactVarsIn.f k l0 = some true
end Go.Proofs.Ytmppibhdnajjjaa.V
