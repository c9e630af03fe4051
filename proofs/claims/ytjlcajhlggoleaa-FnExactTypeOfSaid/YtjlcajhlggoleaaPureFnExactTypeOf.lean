/- FnExactTypeOf: for every list of nodes the program's TypeOf answers what the reference's answers, and turns none of them; no condition. -/
import Derived.Test.YtjlcajhlggoleaaUType
import Derived.Test.YtjlcajhlggoleaaQSFnExactTypeOf
import Derived.Test.YtjlcajhlggoleaaQ23
namespace Go.Proofs.Ytjlcajhlggoleaa.Pure
set_option linter.unusedVariables false
set_option linter.unusedSimpArgs false
open Go.RowKit Go.Proofs.Ytjlcajhlggoleaa Go.Proofs.Ytjlcajhlggoleaa.Q Go.Proofs.YtjlcajhlggoleaaW.PrintWords Go.Proofs.YtjlcajhlggoleaaW.PrintLast
theorem eqIntResult_eq (x y : Int) : laws_eqIntResult.f x y x y = some true := by unfold laws_eqIntResult.f; simp
theorem FnExactTypeOf : laws_FnExactTypeOf.Pure := by
  intro a ha
  refine Ev.rounds (g := fun k => laws_FnExactTypeOf.f k a) ?_
  unfold laws_FnExactTypeOf.f
  obtain ⟨r, r0, r1, r2, r3⟩ := szNodeS_ev a ha.1 1048576 (by omega) (by omega)
  simp only [r3, Option.bind_some]
  by_cases hr : r < 0
  · simp only [if_pos hr]; exact Ev.now _
  · simp only [if_neg hr]
    have a1 := r2 (by omega)
    have ta := toNodeS_ev a a1
    have la : (a.map toNode).length ≤ 1048576 := by simpa using a1
    refine Pl.ev_bind' ta ?_
    refine Pl.ev_bind' (specType_ev _ la) ?_
    refine Pl.ev_bind' ta ?_
    refine Pl.ev_bind' (implType_ev _) ?_
    simp only [eqIntResult_eq, Option.bind_some, if_true]
    refine Pl.ev_bind' ta ?_
    refine Pl.ev_bind' (eqNodeS_ev _ la) ?_
    simp only [if_true]
    exact Ev.now _
end Go.Proofs.Ytjlcajhlggoleaa.Pure
