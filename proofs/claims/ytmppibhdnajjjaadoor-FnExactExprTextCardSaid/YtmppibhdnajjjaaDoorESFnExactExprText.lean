-- Written by a program of this session's own (xp.py) for this seat.
import Derived.Test.YtmppibhdnajjjaaDoorE7
import Derived.Test.YtmppibhdnajjjaaDoorEO
namespace Go.Proofs.YtmppibhdnajjjaaDoor.E
open Go.RowKit Go.Proofs.YtmppibhdnajjjaaDoorW.PrintWords Go.Proofs.YtmppibhdnajjjaaDoorW.PrintLast Go.Proofs.YtmppibhdnajjjaaDoorW.PrintMore
attribute [local go_sem] Instr.field asAgg
attribute [local go_sem] max2_int min2_int max_two min_two max_three min_three max_four min_four   -- for this text's walks alone
set_option linter.unusedVariables false
set_option linter.unusedSimpArgs false

/-- The one pure statement of laws_FnExactExprText. -/
def laws_FnExactExprText.Pure : Prop := ∀ (l0 : List (S67)), (l0.length ≤ 9223372036854775807 ∧ ∀ l0_ ∈ l0, wf67 l0_) → ∃ k, laws_FnExactExprText.f k l0 = some true
end Go.Proofs.YtmppibhdnajjjaaDoor.E
