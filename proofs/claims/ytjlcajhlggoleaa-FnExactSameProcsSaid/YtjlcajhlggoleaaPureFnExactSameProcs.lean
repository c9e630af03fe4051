/- FnExactSameProcs: for every two lists of steps the program's SameProcs answers what the reference's answers, and turns none of them; no condition. -/
import Derived.Test.YtjlcajhlggoleaaUSameP
import Derived.Test.YtjlcajhlggoleaaQSFnExactSameProcs
namespace Go.Proofs.Ytjlcajhlggoleaa.Pure
set_option linter.unusedVariables false
set_option linter.unusedSimpArgs false
open Go.RowKit Go.Proofs.Ytjlcajhlggoleaa Go.Proofs.Ytjlcajhlggoleaa.Q Go.Proofs.YtjlcajhlggoleaaW.PrintWords Go.Proofs.YtjlcajhlggoleaaW.PrintLast
theorem f45_le {l : List S97} (h : ∀ y ∈ l, bStep y) : ∀ y ∈ l.map toStep, y.f4.length ≤ 1048576 ∧ y.f5.length ≤ 1048576 := by
  intro y hy
  obtain ⟨x, hx, rfl⟩ := List.mem_map.1 hy
  have := (h x hx).2
  simpa [toStep] using this

theorem FnExactSameProcs : laws_FnExactSameProcs.Pure := by
  intro a b ha hb
  refine Ev.rounds (g := fun k => laws_FnExactSameProcs.f k a b) ?_
  unfold laws_FnExactSameProcs.f
  obtain ⟨r, r0, r1, r2, r3⟩ := szStepS_ev a ha.1 ha.2 1048576 (by omega) (by omega)
  refine Pl.ev_bind' r3 ?_
  by_cases hr : r < 0
  · simp only [if_pos hr]; exact Ev.now _
  · simp only [if_neg hr]
    obtain ⟨q, q0, q1, q2, q3⟩ := szStepS_ev b hb.1 hb.2 r (by omega) (by omega)
    refine Pl.ev_bind' q3 ?_
    by_cases hq : q < 0
    · simp only [if_pos hq]; exact Ev.now _
    · simp only [if_neg hq]
      obtain ⟨a1, a2⟩ := r2 (by omega)
      obtain ⟨b1, b2⟩ := q2 (by omega)
      have ta := toStepS_ev a a1 a2
      have tb := toStepS_ev b b1 b2
      have la : (a.map toStep).length ≤ 1048576 := by simpa using a1
      have lb : (b.map toStep).length ≤ 1048576 := by simpa using b1
      refine Pl.ev_bind' ta ?_
      refine Pl.ev_bind' tb ?_
      refine Pl.ev_bind' (specSs_ev _ _ la (f45_le a2)) ?_
      refine Pl.ev_bind' ta ?_
      refine Pl.ev_bind' tb ?_
      refine Pl.ev_bind' (implSs_ev _ _ la (f45_le a2)) ?_
      rw [bne_self_eq_false]
      simp only [Bool.false_eq_true, if_false]
      refine Pl.ev_bind' ta ?_
      refine Pl.ev_bind' (eqStepS_ev _ la (f45_le a2)) ?_
      simp only [if_true]
      refine Pl.ev_bind' tb ?_
      refine Pl.ev_bind' (eqStepS_ev _ lb (f45_le b2)) ?_
      simp only [if_true]
      exact Ev.now _

end Go.Proofs.Ytjlcajhlggoleaa.Pure
