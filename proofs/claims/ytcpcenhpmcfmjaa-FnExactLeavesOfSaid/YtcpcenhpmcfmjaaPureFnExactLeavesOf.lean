/- FnExactLeavesOf: for every list of steps the program's LeavesOf answers what the reference's answers, turns none of them, keeps nothing of them, and its answer owns its memory; no condition. -/
import Derived.Test.YtcpcenhpmcfmjaaUAll
import Derived.Test.YtcpcenhpmcfmjaaLSFnExactLeavesOf
import Derived.Test.YtcpcenhpmcfmjaaL18
namespace Go.Proofs.Ytcpcenhpmcfmjaa.L
set_option linter.unusedVariables false
set_option linter.unusedSimpArgs false
open Go.RowKit Go.Proofs.Ytcpcenhpmcfmjaa Go.Proofs.YtcpcenhpmcfmjaaW.PrintWords Go.Proofs.YtcpcenhpmcfmjaaW.PrintLast
def leafK (K : Int) : Bool := decide (K = 2 ∨ K = 5 ∨ K = 6)
theorem specLeaf_eq (K : Int) : spec_l4Leaf.f K = some (leafK K) := by
  unfold spec_l4Leaf.f leafK
  by_cases h2 : K = 2
  · simp [h2]
  · by_cases h5 : K = 5
    · simp [h5]
    · by_cases h6 : K = 6 <;> simp [h2, h5, h6]
theorem implLeaf_eq (K : Int) : impl_isLeaf.f K = some (leafK K) := by
  unfold impl_isLeaf.f leafK
  by_cases h2 : K = 2
  · simp [h2]
  · by_cases h5 : K = 5
    · simp [h5]
    · by_cases h6 : K = 6 <;> simp [h2, h5, h6]
def leavesC (p : List St) (n : Nat) : List Int := ((List.range n).filter fun (j : Nat) => leafK (rdS p (j : Int)).f0).map fun (j : Nat) => (j : Int)
theorem leavesC_len (p : List St) (n : Nat) : (leavesC p n).length ≤ n := by
  unfold leavesC
  rw [List.length_map]
  have := List.length_filter_le (fun (j : Nat) => leafK (rdS p (j : Int)).f0) (List.range n)
  simpa using this
theorem leavesC_succ (p : List St) (n : Nat) : leavesC p (n + 1) = leavesC p n ++ (if leafK (rdS p (n : Int)).f0 = true then [(n : Int)] else []) := by
  unfold leavesC
  rw [List.range_succ, List.filter_append, List.map_append]
  congr 1
  by_cases h : leafK (rdS p (n : Int)).f0 = true
  · simp [h]
  · simp [h]
theorem leaves_ev (p : List St) (hl : p.length ≤ 1048576) (hz : sized p) : ∃ (c : Int) (l : List Int), l.length ≤ 1048576 ∧ Ev (fun k => spec_LeavesOf.f k p) (c, l) ∧ Ev (fun k => impl_LeavesOf.f k p) (c, l) := by
  obtain ⟨c, s, m, n⟩ := proc_ev p hl hz
  by_cases hc : c = 0
  · refine ⟨0, leavesC p p.length, Nat.le_trans (leavesC_len _ _) hl, ?_, ?_⟩
    · unfold spec_LeavesOf.f
      refine Pl.ev_bind' s (Pl.ev_ite_pos hc ?_)
      refine Pl.loop (σ := List Int) (n := p.length) (g := fun k i s => spec_LeavesOf.l0 k p i 0 s) (F := fun _ _ => ((0 : Int), leavesC p p.length)) (fun i s => s = leavesC p i) ?_ ?_ 0 [] (Nat.zero_le _) rfl
      · intro s hs
        refine Ev.step (fun k => by rw [spec_LeavesOf.l0]) ?_
        rw [hs]
        exact Pl.ev_ite_neg (by omega) (Ev.now _)
      · intro i s hi hs ih
        have e := leavesC_succ p i
        have hle := leavesC_len p i
        refine Ev.step (fun k => by rw [spec_LeavesOf.l0]) ?_
        rw [Pl.wrap_nat (show i < 9223372036854775807 by omega)]
        simp only [specLeaf_eq, Option.bind_some]
        refine Pl.ev_ite_pos (by omega) (Pl.ev_ite_pos (by omega) ?_)
        by_cases h : leafK (rdS p (i : Int)).f0 = true
        · rw [if_pos h] at e
          exact Pl.ev_ite_pos h (Pl.ev_ite_pos (by rw [hs]; omega) (ih _ (by rw [hs, e])))
        · rw [if_neg h, List.append_nil] at e
          exact Pl.ev_ite_neg h (ih _ (by rw [hs, e]))
    · unfold impl_LeavesOf.f
      refine Pl.ev_bind' m (Pl.ev_ite_pos hc ?_)
      refine Pl.loop (σ := List Int) (n := p.length) (g := fun k i s => impl_LeavesOf.l0 k s p (p.length : Int) i) (F := fun _ _ => ((0 : Int), leavesC p p.length)) (fun i s => s = leavesC p i) ?_ ?_ 0 [] (Nat.zero_le _) rfl
      · intro s hs
        refine Ev.step (fun k => by rw [impl_LeavesOf.l0]) ?_
        rw [hs]
        exact Pl.ev_ite_neg (by omega) (Ev.now _)
      · intro i s hi hs ih
        have e := leavesC_succ p i
        have hle := leavesC_len p i
        refine Ev.step (fun k => by rw [impl_LeavesOf.l0]) ?_
        rw [Pl.wrap_nat (show i < 9223372036854775807 by omega)]
        simp only [implLeaf_eq, Option.bind_some]
        refine Pl.ev_ite_pos (by omega) (Pl.ev_ite_pos (by omega) (Pl.ev_ite_pos (by omega) ?_))
        by_cases h : leafK (rdS p (i : Int)).f0 = true
        · rw [if_pos h] at e
          exact Pl.ev_ite_pos h (Pl.ev_ite_pos (by rw [hs]; omega) (ih _ (by rw [hs, e])))
        · rw [if_neg h, List.append_nil] at e
          exact Pl.ev_ite_neg h (ih _ (by rw [hs, e]))
  · refine ⟨c, [], by simp, ?_, ?_⟩
    · unfold spec_LeavesOf.f
      exact Pl.ev_bind' s (Pl.ev_ite_neg hc (Ev.now _))
    · unfold impl_LeavesOf.f
      exact Pl.ev_bind' m (Pl.ev_ite_neg hc (Ev.now _))
end Go.Proofs.Ytcpcenhpmcfmjaa.L
namespace Go.Proofs.Ytcpcenhpmcfmjaa.Pure
open Go.RowKit Go.Proofs.Ytcpcenhpmcfmjaa Go.Proofs.Ytcpcenhpmcfmjaa.L Go.Proofs.YtcpcenhpmcfmjaaW.PrintWords Go.Proofs.YtcpcenhpmcfmjaaW.PrintLast
theorem FnExactLeavesOf : laws_FnExactLeavesOf.Pure := by
  intro a ha
  refine Ev.rounds (g := fun k => laws_FnExactLeavesOf.f k a) ?_
  unfold laws_FnExactLeavesOf.f
  obtain ⟨r, r0, r1, r2, r3⟩ := szStepS_ev a ha.1 ha.2 1048576 (by omega) (by omega)
  refine Pl.ev_bind' r3 ?_
  by_cases hr : r < 0
  · exact Pl.ev_ite_pos hr (Ev.now _)
  · refine Pl.ev_ite_neg hr ?_
    obtain ⟨a1, a2⟩ := r2 (by omega)
    have ta := toStepS_ev a a1 a2
    have la : (a.map toStep).length ≤ 1048576 := by simpa using a1
    have ba : ∀ y ∈ a.map toStep, y.f4.length ≤ 1048576 ∧ y.f5.length ≤ 1048576 := by
      intro y hy
      obtain ⟨z, hz, rfl⟩ := List.mem_map.1 hy
      have := a2 z hz
      simpa [toStep] using this.2
    obtain ⟨c, l, hl, s, m⟩ := leaves_ev (a.map toStep) la (sized_map a a2)
    obtain ⟨t, ht, h0⟩ := markStep_some (a.map toStep) la ba
    have eqi := eqInts_ev c l hl
    have mk := markInts_ev c l hl
    have hd := heldInts_ev c l.length hl
    refine Pl.ev_bind' ta (Pl.ev_bind' s (Pl.ev_bind' ta (Pl.ev_bind' m (Pl.ev_bind' eqi (Pl.ev_ite_pos rfl (Pl.ev_bind' ta (Pl.ev_bind' (eqStepS_ev _ la ba) (Pl.ev_ite_pos rfl ?_))))))))
    simp only [ht, Option.bind_some]
    refine Pl.ev_ite_neg h0 (Pl.ev_bind' eqi ?_)
    refine Ev.step (fun k => by rw [laws_FnExactLeavesOf.j0]) ?_
    refine Pl.ev_ite_neg (by simp) (Pl.ev_bind' mk (Pl.ev_bind' hd (Pl.ev_ite_neg (by omega) (Pl.ev_ite_pos rfl (Pl.ev_bind' ta (Pl.ev_bind' m (Pl.ev_bind' eqi (Pl.ev_ite_pos rfl (Pl.ev_bind' hd (Pl.ev_ite_neg (by omega) (Pl.ev_ite_pos rfl (Ev.now _))))))))))))
end Go.Proofs.Ytcpcenhpmcfmjaa.Pure
