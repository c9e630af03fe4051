/- What the checks of a range come to. No condition. -/
import Derived.Test.YtmppibhdnajjjaaDoorXPure
import Derived.Test.YtmppibhdnajjjaaDoorP1
import Derived.Test.YtmppibhdnajjjaaDoorP4
namespace Go.Proofs.YtmppibhdnajjjaaDoor.P
set_option linter.unusedVariables false
set_option linter.unusedSimpArgs false
open Go.RowKit Go.Proofs.YtmppibhdnajjjaaDoor Go.Proofs.YtmppibhdnajjjaaDoorW.PrintWords Go.Proofs.YtmppibhdnajjjaaDoorW.PrintLast
theorem l1In_eq (a lo hi : Int) : spec_l1In.f a lo hi = some (decide (lo ≤ a ∧ a ≤ hi)) := by
  unfold spec_l1In.f
  by_cases h : a ≥ lo
  · rw [if_pos h]; congr 1; rw [decide_eq_decide]; omega
  · rw [if_neg h]; congr 1; rw [eq_comm, decide_eq_false_iff_not]; omega
theorem inRange_eq (a lo hi : Int) : impl_inRange.f a lo hi = some (decide (lo ≤ a ∧ a ≤ hi)) := by
  unfold impl_inRange.f
  by_cases h : lo ≤ a
  · rw [if_pos h]; congr 1; rw [decide_eq_decide]; omega
  · rw [if_neg h]; congr 1; rw [eq_comm, decide_eq_false_iff_not]; omega
end Go.Proofs.YtmppibhdnajjjaaDoor.P
