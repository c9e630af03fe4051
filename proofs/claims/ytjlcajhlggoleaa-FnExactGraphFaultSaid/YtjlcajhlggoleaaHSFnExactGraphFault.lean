-- Written by a program of this session's own (xp.py) for this seat.
import Derived.Test.YtjlcajhlggoleaaH11
import Derived.Test.YtjlcajhlggoleaaHO
namespace Go.Proofs.Ytjlcajhlggoleaa.H
open Go.RowKit Go.Proofs.YtjlcajhlggoleaaW.PrintWords Go.Proofs.YtjlcajhlggoleaaW.PrintLast Go.Proofs.YtjlcajhlggoleaaW.PrintMore
attribute [local go_sem] Instr.field asAgg
attribute [local go_sem] max2_int min2_int max_two min_two max_three min_three max_four min_four   -- for this text's walks alone
set_option linter.unusedVariables false
set_option linter.unusedSimpArgs false

/-- The one pure statement of laws_FnExactGraphFault. -/
def laws_FnExactGraphFault.Pure : Prop := ∀ (a0 : S56), wf56 a0 → ∃ k, laws_FnExactGraphFault.f k (a0.f0) (a0.f1) = some true
end Go.Proofs.Ytjlcajhlggoleaa.H
