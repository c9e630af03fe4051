-- Written by a program of this session's own (xp.py) for this seat.
import Derived.Test.YtfgidohkkbmfjaaQ11
import Derived.Test.YtfgidohkkbmfjaaQO
namespace Go.Proofs.Ytfgidohkkbmfjaa.Q
open Go.RowKit Go.Proofs.YtfgidohkkbmfjaaW.PrintWords Go.Proofs.YtfgidohkkbmfjaaW.PrintLast Go.Proofs.YtfgidohkkbmfjaaW.PrintMore
attribute [local go_sem] max2_int min2_int max_two min_two max_three min_three max_four min_four   -- for this text's walks alone
set_option linter.unusedVariables false
set_option linter.unusedSimpArgs false

/-- The one pure statement of laws_FnExactEvalExpr. -/
def laws_FnExactEvalExpr.Pure : Prop := ∀ (l0 : List (S56)) (l1 : List Int), (l0.length ≤ 9223372036854775807 ∧ ∀ l0_ ∈ l0, wf56 l0_) → (l1.length ≤ 9223372036854775807 ∧ ∀ l1_ ∈ l1, (Lit.int .i64 l1_).wf = true) → ∃ k, laws_FnExactEvalExpr.f k l0 l1 = some true
end Go.Proofs.Ytfgidohkkbmfjaa.Q
