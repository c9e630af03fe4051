/- FnExactEvalExpr: for every list of nodes and every list of numbers the program's EvalExpr answers what the reference's answers, and turns none of them; no condition. -/
import Derived.Test.YtfgidohkkbmfjaaUEval
import Derived.Test.YtfgidohkkbmfjaaQSFnExactEvalExpr
import Derived.Test.YtfgidohkkbmfjaaQ10
namespace Go.Proofs.Ytfgidohkkbmfjaa.Pure
set_option linter.unusedVariables false
set_option linter.unusedSimpArgs false
open Go.RowKit Go.Proofs.Ytfgidohkkbmfjaa Go.Proofs.Ytfgidohkkbmfjaa.Q Go.Proofs.YtfgidohkkbmfjaaW.PrintWords Go.Proofs.YtfgidohkkbmfjaaW.PrintLast
theorem eqIntResult_eq (x y : Int) : laws_eqIntResult.f x y x y = some true := by unfold laws_eqIntResult.f; simp
theorem FnExactEvalExpr : laws_FnExactEvalExpr.Pure := by
  intro a b ha hb
  refine Ev.rounds (g := fun k => laws_FnExactEvalExpr.f k a b) ?_
  unfold laws_FnExactEvalExpr.f
  simp only [Pl.ev_ite]
  split
  · exact Ev.now _
  obtain ⟨r, r0, r1, r2, r3⟩ := szNodeS_ev a ha.1 1048576 (by omega) (by omega)
  simp only [r3, Option.bind_some]
  by_cases hr : r < 0
  · simp only [if_pos hr]; exact Ev.now _
  · simp only [if_neg hr]
    have a1 := r2 (by omega)
    have ta := toNodeS_ev a a1
    have la : (a.map toNode).length ≤ 1048576 := by simpa using a1
    have lb : b.length ≤ 1048576 := by omega
    have tb := toInts_ev b lb
    refine Pl.ev_bind' ta ?_
    refine Pl.ev_bind' tb ?_
    refine Pl.ev_bind' (specEvalExpr_ev _ _ la lb) ?_
    refine Pl.ev_bind' ta ?_
    refine Pl.ev_bind' tb ?_
    refine Pl.ev_bind' (implEvalExpr_ev _ _ lb) ?_
    simp only [eqIntResult_eq, Option.bind_some, if_true]
    refine Pl.ev_bind' ta ?_
    refine Pl.ev_bind' (eqNodeS_ev _ la) ?_
    simp only [if_true]
    refine Pl.ev_bind' tb ?_
    refine Pl.ev_bind' (eqInts_ev _ lb) ?_
    simp only [if_true]
    exact Ev.now _
end Go.Proofs.Ytfgidohkkbmfjaa.Pure
