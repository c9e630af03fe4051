-- Written by a program of this session's own (xp.py) for this seat.
import Derived.Test.YtmppibhdnajjjaaDoorG8
import Derived.Test.YtmppibhdnajjjaaDoorGO
namespace Go.Proofs.YtmppibhdnajjjaaDoor.G
open Go.RowKit Go.Proofs.YtmppibhdnajjjaaDoorW.PrintWords Go.Proofs.YtmppibhdnajjjaaDoorW.PrintLast Go.Proofs.YtmppibhdnajjjaaDoorW.PrintMore
attribute [local go_sem] Instr.field asAgg
attribute [local go_sem] max2_int min2_int max_two min_two max_three min_three max_four min_four   -- for this text's walks alone
set_option linter.unusedVariables false
set_option linter.unusedSimpArgs false

/-- The one pure statement of laws_FnExactGraphText. -/
def laws_FnExactGraphText.Pure : Prop := ∀ (a0 : S49), wf49 a0 → ∃ k, laws_FnExactGraphText.f k (a0.f0) (a0.f1) = some true
end Go.Proofs.YtmppibhdnajjjaaDoor.G
