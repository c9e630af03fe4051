/- FnExactGraphFault: for every graph the program's GraphFault answers what the reference's answers, and turns nothing of it; no condition. -/
import Derived.Test.YtjlcajhlggoleaaUGFault
import Derived.Test.YtjlcajhlggoleaaHSFnExactGraphFault
namespace Go.Proofs.Ytjlcajhlggoleaa.Pure
set_option linter.unusedVariables false
set_option linter.unusedSimpArgs false
open Go.RowKit Go.Proofs.Ytjlcajhlggoleaa Go.Proofs.Ytjlcajhlggoleaa.H Go.Proofs.YtjlcajhlggoleaaW.PrintWords Go.Proofs.YtjlcajhlggoleaaW.PrintLast
theorem FnExactGraphFault : laws_FnExactGraphFault.Pure := by
  intro a ha
  refine Ev.rounds (g := fun k => laws_FnExactGraphFault.f k a.f0 a.f1) ?_
  unfold laws_FnExactGraphFault.f
  obtain ⟨r, r0, r1, r2, r3⟩ := szGraph_ev a ha 1048576 (by omega) (by omega)
  refine Pl.ev_bind' r3 ?_
  by_cases hr : r < 0
  · simp only [if_pos hr]; exact Ev.now _
  · simp only [if_neg hr]
    have ba := r2 (by omega)
    have ta := toGraph_ev a ba
    refine Pl.ev_bind' ta ?_
    refine Pl.ev_bind' (specGraph_ev _ _ (cG_to a ba) (cF_to a ba)) ?_
    refine Pl.ev_bind' ta ?_
    refine Pl.ev_bind' (implGraph_ev _ _ (cG_to a ba) (cF_to a ba)) ?_
    simp only [if_true]
    refine Pl.ev_bind' ta ?_
    refine Pl.ev_bind' (eqGraph_ev _ _ (cG_to a ba) (cF_to a ba)) ?_
    simp only [if_true]
    exact Ev.now _
end Go.Proofs.Ytjlcajhlggoleaa.Pure
