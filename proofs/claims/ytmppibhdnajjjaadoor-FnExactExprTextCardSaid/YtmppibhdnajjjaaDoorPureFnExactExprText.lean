/- FnExactExprText: for every list of nodes the program's ExprText answers what the reference's answers, and turns none of them; no condition beyond the row's own. -/
import Derived.Test.YtmppibhdnajjjaaDoorUText3
import Derived.Test.YtmppibhdnajjjaaDoorESFnExactExprText
import Derived.Test.YtmppibhdnajjjaaDoorE1
namespace Go.Proofs.YtmppibhdnajjjaaDoor.Pure
set_option linter.unusedVariables false
set_option linter.unusedSimpArgs false
open Go.RowKit Go.Proofs.YtmppibhdnajjjaaDoor Go.Proofs.YtmppibhdnajjjaaDoor.E Go.Proofs.YtmppibhdnajjjaaDoorW.PrintWords Go.Proofs.YtmppibhdnajjjaaDoorW.PrintLast
theorem FnExactExprText : laws_FnExactExprText.Pure := by
  intro a ha
  refine Ev.rounds (g := fun k => laws_FnExactExprText.f k a) ?_
  unfold laws_FnExactExprText.f
  obtain ⟨r, r0, r1, r2, r3⟩ := szNodeS_ev a ha.1 1048576 (by omega) (by omega)
  rw [r3]
  simp only [Option.bind_some]
  by_cases hr : r < 0
  · exact Pl.ev_ite_pos hr (Ev.now _)
  · refine Pl.ev_ite_neg hr ?_
    have a1 := r2 (by omega)
    have ta := toNodeS_ev a a1
    have la : (a.map toNode).length ≤ 1048576 := by simpa using a1
    obtain ⟨s, m⟩ := exprText_ev (a.map toNode) la
    have eqt : laws_eqTextResult.f (exprTextC (a.map toNode)).1 (exprTextC (a.map toNode)).2 (exprTextC (a.map toNode)).1 (exprTextC (a.map toNode)).2 = some true := by
      unfold laws_eqTextResult.f
      rw [if_pos rfl, if_pos rfl]
    refine Pl.ev_bind' ta (Pl.ev_bind' s (Pl.ev_bind' ta (Pl.ev_bind' m ?_)))
    rw [eqt]
    simp only [Option.bind_some]
    exact Pl.ev_ite_pos trivial (Pl.ev_bind' ta (Pl.ev_bind' (eqNodeS_ev _ la) (Pl.ev_ite_pos rfl (Ev.now _))))
end Go.Proofs.YtmppibhdnajjjaaDoor.Pure
