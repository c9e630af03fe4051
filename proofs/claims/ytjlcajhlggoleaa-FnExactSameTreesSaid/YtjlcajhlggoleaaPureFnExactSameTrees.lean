/- FnExactSameTrees: for every two lists of elements the program's SameTrees answers what the reference's answers, and turns none of them; no condition. -/
import Derived.Test.YtjlcajhlggoleaaUSame
import Derived.Test.YtjlcajhlggoleaaQSFnExactSameTrees
namespace Go.Proofs.Ytjlcajhlggoleaa.Pure
set_option linter.unusedVariables false
set_option linter.unusedSimpArgs false
open Go.RowKit Go.Proofs.Ytjlcajhlggoleaa Go.Proofs.Ytjlcajhlggoleaa.Q Go.Proofs.YtjlcajhlggoleaaW.PrintWords Go.Proofs.YtjlcajhlggoleaaW.PrintLast
theorem f2_le {l : List S85} (h : ∀ y ∈ l, bElem y) : ∀ y ∈ l.map toElem, y.f2.length ≤ 1048576 := by
  intro y hy
  obtain ⟨x, hx, rfl⟩ := List.mem_map.1 hy
  have := (h x hx).2.1
  simpa [toElem] using this

theorem FnExactSameTrees : laws_FnExactSameTrees.Pure := by
  intro a b ha hb
  refine Ev.rounds (g := fun k => laws_FnExactSameTrees.f k a b) ?_
  unfold laws_FnExactSameTrees.f
  obtain ⟨r, r0, r1, r2, r3⟩ := szElemS_ev a ha.1 ha.2 1048576 (by omega) (by omega)
  refine Pl.ev_bind' r3 ?_
  by_cases hr : r < 0
  · simp only [if_pos hr]; exact Ev.now _
  · simp only [if_neg hr]
    obtain ⟨q, q0, q1, q2, q3⟩ := szElemS_ev b hb.1 hb.2 r (by omega) (by omega)
    refine Pl.ev_bind' q3 ?_
    by_cases hq : q < 0
    · simp only [if_pos hq]; exact Ev.now _
    · simp only [if_neg hq]
      obtain ⟨a1, a2⟩ := r2 (by omega)
      obtain ⟨b1, b2⟩ := q2 (by omega)
      have ta := toElemS_ev a a1 a2
      have tb := toElemS_ev b b1 b2
      have la : (a.map toElem).length ≤ 1048576 := by simpa using a1
      have lb : (b.map toElem).length ≤ 1048576 := by simpa using b1
      refine Pl.ev_bind' ta ?_
      refine Pl.ev_bind' tb ?_
      refine Pl.ev_bind' (specEs_ev _ _ la (f2_le a2)) ?_
      refine Pl.ev_bind' ta ?_
      refine Pl.ev_bind' tb ?_
      refine Pl.ev_bind' (implEs_ev _ _ la (f2_le a2)) ?_
      rw [bne_self_eq_false]
      simp only [Bool.false_eq_true, if_false]
      refine Pl.ev_bind' ta ?_
      refine Pl.ev_bind' (eqElemS_ev _ la (f2_le a2)) ?_
      simp only [if_true]
      refine Pl.ev_bind' tb ?_
      refine Pl.ev_bind' (eqElemS_ev _ lb (f2_le b2)) ?_
      simp only [if_true]
      exact Ev.now _

end Go.Proofs.Ytjlcajhlggoleaa.Pure
