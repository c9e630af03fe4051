-- Written by a program of this session's own (xp.py) for this seat.
import Derived.Test.YtjlcajhlggoleaaG9
import Derived.Test.YtjlcajhlggoleaaGO
namespace Go.Proofs.Ytjlcajhlggoleaa.G
open Go.RowKit Go.Proofs.YtjlcajhlggoleaaW.PrintWords Go.Proofs.YtjlcajhlggoleaaW.PrintLast Go.Proofs.YtjlcajhlggoleaaW.PrintMore
attribute [local go_sem] Instr.field asAgg
attribute [local go_sem] max2_int min2_int max_two min_two max_three min_three max_four min_four   -- for this text's walks alone
set_option linter.unusedVariables false
set_option linter.unusedSimpArgs false

/-- The one pure statement of laws_FnExactSameGraphs. -/
def laws_FnExactSameGraphs.Pure : Prop := ∀ (a0 : S56) (a1 : S56), wf56 a0 → wf56 a1 → ∃ k, laws_FnExactSameGraphs.f k (a0.f0) (a0.f1) (a1.f0) (a1.f1) = some true
end Go.Proofs.Ytjlcajhlggoleaa.G
