-- Written by a program of this session's own (xp.py) for this seat.
import Derived.Test.YtjlcajhlggoleaaQ24
import Derived.Test.YtjlcajhlggoleaaQO
namespace Go.Proofs.Ytjlcajhlggoleaa.Q
open Go.RowKit Go.Proofs.YtjlcajhlggoleaaW.PrintWords Go.Proofs.YtjlcajhlggoleaaW.PrintLast Go.Proofs.YtjlcajhlggoleaaW.PrintMore
attribute [local go_sem] max2_int min2_int max_two min_two max_three min_three max_four min_four   -- for this text's walks alone
set_option linter.unusedVariables false
set_option linter.unusedSimpArgs false

/-- The one pure statement of laws_FnExactTypeOf. -/
def laws_FnExactTypeOf.Pure : Prop := ∀ (l0 : List (S79)), (l0.length ≤ 9223372036854775807 ∧ ∀ l0_ ∈ l0, wf79 l0_) → ∃ k, laws_FnExactTypeOf.f k l0 = some true
end Go.Proofs.Ytjlcajhlggoleaa.Q
