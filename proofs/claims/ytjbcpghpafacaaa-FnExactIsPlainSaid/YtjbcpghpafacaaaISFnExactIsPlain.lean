-- Written by a program of this session's own (xp.py) for this seat.
import Derived.Test.YtjbcpghpafacaaaI4
import Derived.Test.YtjbcpghpafacaaaIO
namespace Go.Proofs.Ytjbcpghpafacaaa.I
open Go.RowKit Go.Proofs.YtjbcpghpafacaaaW.PrintWords Go.Proofs.YtjbcpghpafacaaaW.PrintLast Go.Proofs.YtjbcpghpafacaaaW.PrintMore
attribute [local go_sem] Instr.field asAgg
attribute [local go_sem] max2_int min2_int max_two min_two max_three min_three max_four min_four   -- for this text's walks alone
set_option linter.unusedVariables false
set_option linter.unusedSimpArgs false

/-- The one pure statement of laws_FnExactIsPlain. -/
def laws_FnExactIsPlain.Pure : Prop := ∀ (l0 : List (S32)), (l0.length ≤ 9223372036854775807 ∧ ∀ l0_ ∈ l0, wf32 l0_) → ∃ k, laws_FnExactIsPlain.f k l0 = some true
end Go.Proofs.Ytjbcpghpafacaaa.I
