/- FnExactWriteTree: for every list of elements the program's WriteTree answers what the reference's answers, and turns none of them; no condition. -/
import Derived.Test.YthoamjobclfjjaaGreatUAll
import Derived.Test.YthoamjobclfjjaaGreatRSFnExactWriteTree
namespace Go.Proofs.YthoamjobclfjjaaGreat.Pure
set_option linter.unusedVariables false
set_option linter.unusedSimpArgs false
open Go.RowKit Go.Proofs.YthoamjobclfjjaaGreat Go.Proofs.YthoamjobclfjjaaGreat.R Go.Proofs.YthoamjobclfjjaaGreatW.PrintWords Go.Proofs.YthoamjobclfjjaaGreatW.PrintLast
theorem text_refl (c : Int) (t : ByteArray) : laws_eqTextResult.f c t c t = some true := by
  unfold laws_eqTextResult.f
  rw [if_pos rfl, if_pos rfl]
theorem FnExactWriteTree : laws_FnExactWriteTree.Pure := by
  intro a ha
  refine Ev.rounds (g := fun k => laws_FnExactWriteTree.f k a) ?_
  unfold laws_FnExactWriteTree.f
  obtain ⟨r, r0, r1, r2, r3⟩ := szElemS_ev a ha.1 ha.2 1048576 (by omega) (by omega)
  refine Pl.ev_bind' r3 ?_
  by_cases hr : r < 0
  · exact Pl.ev_ite_pos hr (Ev.now _)
  · refine Pl.ev_ite_neg hr ?_
    obtain ⟨a1, a2⟩ := r2 (by omega)
    have ta := toElemS_ev a a1 a2
    have la : (a.map toElem).length ≤ 1048576 := by simpa using a1
    have ba : ∀ y ∈ a.map toElem, y.f2.length ≤ 1048576 := by
      intro y hy
      obtain ⟨z, hz, rfl⟩ := List.mem_map.1 hy
      simpa [toElem] using (a2 z hz).2.1
    obtain ⟨⟨c, t⟩, s, m⟩ := write_tree la (sizedE_map a a2)
    refine Pl.ev_bind' ta (Pl.ev_bind' s (Pl.ev_bind' ta (Pl.ev_bind' m ?_)))
    refine Pl.ev_bind' (a := true) (by rw [text_refl]; exact Ev.now _) ?_
    exact Pl.ev_ite_pos rfl (Pl.ev_bind' ta (Pl.ev_bind' (eqElemS_ev _ la ba) (Pl.ev_ite_pos rfl (Ev.now _))))
end Go.Proofs.YthoamjobclfjjaaGreat.Pure
