/- FnExactSameGraphs: for every two graphs the program's SameGraphs answers what the reference's answers, and turns none of them; no condition. -/
import Derived.Test.YtjlcajhlggoleaaUSameG
import Derived.Test.YtjlcajhlggoleaaGSFnExactSameGraphs
namespace Go.Proofs.Ytjlcajhlggoleaa.Pure
set_option linter.unusedVariables false
set_option linter.unusedSimpArgs false
open Go.RowKit Go.Proofs.Ytjlcajhlggoleaa Go.Proofs.Ytjlcajhlggoleaa.G Go.Proofs.YtjlcajhlggoleaaW.PrintWords Go.Proofs.YtjlcajhlggoleaaW.PrintLast
theorem FnExactSameGraphs : laws_FnExactSameGraphs.Pure := by
  intro a b ha hb
  refine Ev.rounds (g := fun k => laws_FnExactSameGraphs.f k a.f0 a.f1 b.f0 b.f1) ?_
  unfold laws_FnExactSameGraphs.f
  obtain ⟨r, r0, r1, r2, r3⟩ := szGraph_ev a ha 1048576 (by omega) (by omega)
  refine Pl.ev_bind' r3 ?_
  by_cases hr : r < 0
  · simp only [if_pos hr]; exact Ev.now _
  · simp only [if_neg hr]
    obtain ⟨q, q0, q1, q2, q3⟩ := szGraph_ev b hb r (by omega) (by omega)
    refine Pl.ev_bind' q3 ?_
    by_cases hq : q < 0
    · simp only [if_pos hq]; exact Ev.now _
    · simp only [if_neg hq]
      have ba := r2 (by omega)
      have bb := q2 (by omega)
      have ta := toGraph_ev a ba
      have tb := toGraph_ev b bb
      refine Pl.ev_bind' ta ?_
      refine Pl.ev_bind' tb ?_
      refine Pl.ev_bind' (specGraphs_ev _ _ _ _ (cG_to a ba) (cF_to a ba)) ?_
      refine Pl.ev_bind' ta ?_
      refine Pl.ev_bind' tb ?_
      refine Pl.ev_bind' (implGraphs_ev _ _ _ _ (cG_to a ba) (cF_to a ba)) ?_
      rw [bne_self_eq_false]
      simp only [Bool.false_eq_true, if_false]
      refine Pl.ev_bind' ta ?_
      refine Pl.ev_bind' (eqGraph_ev _ _ (cG_to a ba) (cF_to a ba)) ?_
      simp only [if_true]
      refine Pl.ev_bind' tb ?_
      refine Pl.ev_bind' (eqGraph_ev _ _ (cG_to b bb) (cF_to b bb)) ?_
      simp only [if_true]
      exact Ev.now _
end Go.Proofs.Ytjlcajhlggoleaa.Pure
