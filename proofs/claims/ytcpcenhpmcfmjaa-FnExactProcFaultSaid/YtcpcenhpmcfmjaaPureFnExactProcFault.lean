/- FnExactProcFault: for every list of steps the program's ProcFault answers what the reference's answers, and turns none of them; no condition. -/
import Derived.Test.YtcpcenhpmcfmjaaUAll
import Derived.Test.YtcpcenhpmcfmjaaPSFnExactProcFault
import Derived.Test.YtcpcenhpmcfmjaaP17
namespace Go.Proofs.Ytcpcenhpmcfmjaa.Pure
set_option linter.unusedVariables false
set_option linter.unusedSimpArgs false
open Go.RowKit Go.Proofs.Ytcpcenhpmcfmjaa Go.Proofs.Ytcpcenhpmcfmjaa.P Go.Proofs.YtcpcenhpmcfmjaaW.PrintWords Go.Proofs.YtcpcenhpmcfmjaaW.PrintLast
theorem FnExactProcFault : laws_FnExactProcFault.Pure := by
  intro a ha
  refine Ev.rounds (g := fun k => laws_FnExactProcFault.f k a) ?_
  unfold laws_FnExactProcFault.f
  obtain ⟨r, r0, r1, r2, r3⟩ := szStepS_ev a ha.1 ha.2 1048576 (by omega) (by omega)
  refine Pl.ev_bind' r3 ?_
  by_cases hr : r < 0
  · exact Pl.ev_ite_pos hr (Ev.now _)
  · refine Pl.ev_ite_neg hr ?_
    obtain ⟨a1, a2⟩ := r2 (by omega)
    have ta := toStepS_ev a a1 a2
    have la : (a.map toStep).length ≤ 1048576 := by simpa using a1
    have ba : ∀ y ∈ a.map toStep, y.f4.length ≤ 1048576 ∧ y.f5.length ≤ 1048576 := by
      intro y hy
      obtain ⟨z, hz, rfl⟩ := List.mem_map.1 hy
      have := a2 z hz
      simpa [toStep] using this.2
    obtain ⟨c, s, m, _⟩ := proc_ev (a.map toStep) la (sized_map a a2)
    refine Pl.ev_bind' ta ?_
    refine Pl.ev_bind' (by unfold spec_ProcFault.f; exact Pl.ev_bind' s (Ev.now _)) ?_
    refine Pl.ev_bind' ta ?_
    refine Pl.ev_bind' m ?_
    refine Pl.ev_ite_pos rfl ?_
    refine Pl.ev_bind' ta ?_
    refine Pl.ev_bind' (eqStepS_ev _ la ba) ?_
    exact Pl.ev_ite_pos rfl (Ev.now _)
end Go.Proofs.Ytcpcenhpmcfmjaa.Pure
