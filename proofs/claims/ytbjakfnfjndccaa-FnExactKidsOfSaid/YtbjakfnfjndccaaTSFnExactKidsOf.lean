-- Written by a program of this session's own (xp.py) for this seat.
import Derived.Test.YtbjakfnfjndccaaT14
import Derived.Test.YtbjakfnfjndccaaTO
namespace Go.Proofs.Ytbjakfnfjndccaa.T
open Go.RowKit Go.Proofs.YtbjakfnfjndccaaW.PrintWords Go.Proofs.YtbjakfnfjndccaaW.PrintLast Go.Proofs.YtbjakfnfjndccaaW.PrintMore
attribute [local go_sem] Instr.field asAgg
attribute [local go_sem] max2_int min2_int max_two min_two max_three min_three max_four min_four   -- for this text's walks alone
set_option linter.unusedVariables false
set_option linter.unusedSimpArgs false

/-- The one pure statement of laws_FnExactKidsOf. -/
def laws_FnExactKidsOf.Pure : Prop := ∀ (l0 : List (S45)) (a1 : Int), (l0.length ≤ 9223372036854775807 ∧ ∀ l0_ ∈ l0, wf45 l0_) → (Lit.int .i64 a1).wf = true → ∃ k, laws_FnExactKidsOf.f k l0 a1 = some true
end Go.Proofs.Ytbjakfnfjndccaa.T
