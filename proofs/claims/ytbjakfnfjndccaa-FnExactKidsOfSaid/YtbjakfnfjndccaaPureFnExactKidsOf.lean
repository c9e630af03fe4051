/- FnExactKidsOf: for every list of elements and every place the program's KidsOf answers what the reference's answers, turns none of the elements, keeps nothing of them, and its answer owns its memory; no condition. -/
import Derived.Test.YtbjakfnfjndccaaUTFault
import Derived.Test.YtbjakfnfjndccaaUMElem
import Derived.Test.YtbjakfnfjndccaaTSFnExactKidsOf
import Derived.Test.YtbjakfnfjndccaaT12
import Derived.Test.YtbjakfnfjndccaaT8
namespace Go.Proofs.Ytbjakfnfjndccaa.T
set_option linter.unusedVariables false
set_option linter.unusedSimpArgs false
open Go.RowKit Go.Proofs.Ytbjakfnfjndccaa Go.Proofs.YtbjakfnfjndccaaW.PrintWords Go.Proofs.YtbjakfnfjndccaaW.PrintLast
def kidsC (p : List StE) (a : Int) (n : Nat) : List Int := ((List.range n).filter fun (j : Nat) => decide (prE p (j : Int) = a)).map fun (j : Nat) => (j : Int)
theorem kidsC_len (p : List StE) (a : Int) (n : Nat) : (kidsC p a n).length ≤ n := by
  unfold kidsC
  rw [List.length_map]
  have := List.length_filter_le (fun (j : Nat) => decide (prE p (j : Int) = a)) (List.range n)
  simpa using this
theorem kidsC_succ (p : List StE) (a : Int) (n : Nat) : kidsC p a (n + 1) = kidsC p a n ++ (if prE p (n : Int) = a then [(n : Int)] else []) := by
  unfold kidsC
  rw [List.range_succ, List.filter_append, List.map_append]
  congr 1
  by_cases h : prE p (n : Int) = a
  · simp [h]
  · simp [h]
theorem specKids_ev (p : List StE) (hl : p.length ≤ 1048576) (a : Int) : Ev (fun k => spec_l2Kids.f k p a) (kidsC p a p.length) := by
  unfold spec_l2Kids.f
  refine Pl.loop (σ := List Int) (n := p.length) (g := fun k i s => spec_l2Kids.l0 k p a s i) (F := fun _ _ => kidsC p a p.length) (fun i s => s = kidsC p a i) ?_ ?_ 0 [] (Nat.zero_le _) rfl
  · intro s hs
    refine Ev.step (fun k => by rw [spec_l2Kids.l0]) ?_
    rw [hs]
    exact Pl.ev_ite_neg (by omega) (Ev.now _)
  · intro i s hi hs ih
    have e := kidsC_succ p a i
    have hle := kidsC_len p a i
    refine Ev.step (fun k => by rw [spec_l2Kids.l0]) ?_
    rw [Pl.wrap_nat (show i < 9223372036854775807 by omega)]
    refine Pl.ev_ite_pos (by omega) (Pl.ev_ite_pos (by omega) ?_)
    by_cases h : prE p (i : Int) = a
    · rw [if_pos h] at e
      exact Pl.ev_ite_pos h (Pl.ev_ite_pos (by rw [hs]; omega) (ih _ (by rw [hs, e])))
    · rw [if_neg h, List.append_nil] at e
      exact Pl.ev_ite_neg h (ih _ (by rw [hs, e]))
theorem implKids_ev (p : List StE) (hl : p.length ≤ 1048576) (ht : treeOkE p p.length) (a : Int) (h0 : 0 ≤ a) : Ev (fun k => impl_kidsOf.f k p a) (kidsC p a p.length) := by
  unfold impl_kidsOf.f
  refine Pl.loop (σ := List Int) (n := p.length) (g := fun k i s => impl_kidsOf.l0 k a s p (p.length : Int) i) (F := fun _ _ => kidsC p a p.length) (fun i s => s = kidsC p a i) ?_ ?_ 0 [] (Nat.zero_le _) rfl
  · intro s hs
    refine Ev.step (fun k => by rw [impl_kidsOf.l0]) ?_
    rw [hs]
    exact Pl.ev_ite_neg (by omega) (Ev.now _)
  · intro i s hi hs ih
    have e := kidsC_succ p a i
    have hle := kidsC_len p a i
    refine Ev.step (fun k => by rw [impl_kidsOf.l0]) ?_
    rw [Pl.wrap_nat (show i < 9223372036854775807 by omega)]
    refine Pl.ev_ite_pos (by omega) (Pl.ev_ite_pos (by omega) (Pl.ev_ite_pos (by omega) ?_))
    by_cases h : prE p (i : Int) = a
    · rw [if_pos h] at e
      have hi0 : 0 < i := by
        by_cases hz : i = 0
        · have := (ht i hi).1 hz
          omega
        · omega
      exact Pl.ev_ite_pos h (Pl.ev_ite_pos (by omega) (Pl.ev_ite_pos (by rw [hs]; omega) (ih _ (by rw [hs, e]))))
    · rw [if_neg h, List.append_nil] at e
      exact Pl.ev_ite_neg h (ih _ (by rw [hs, e]))
theorem kids_ev (p : List StE) (hl : p.length ≤ 1048576) (hz : sizedE p) (a : Int) : ∃ (c : Int) (l : List Int), l.length ≤ 1048576 ∧ Ev (fun k => spec_KidsOf.f k p a) (c, l) ∧ Ev (fun k => impl_KidsOf.f k p a) (c, l) := by
  obtain ⟨c, sp, im, ok⟩ := tree_ev p hl hz
  have hpl : impl_isPlace.f a (p.length : Int) = some (decide (0 ≤ a ∧ a ≤ (p.length : Int) - 1)) := by
    unfold impl_isPlace.f
    rw [inRange_eq, Option.bind_some, Pl.wrap_in (by omega) (by omega)]
  have hin : spec_l1In.f a 0 (wrap64 ((p.length : Int) - 1)) = some (decide (0 ≤ a ∧ a ≤ (p.length : Int) - 1)) := by rw [l1In_eq, Pl.wrap_in (by omega) (by omega)]
  have impl : ∀ R, (c = 0 → (0 ≤ a ∧ a ≤ (p.length : Int) - 1) → Ev (fun k => (impl_kidsOf.f k p a).bind fun t359 => (some ((0 : Int), t359))) R) → (c = 0 → ¬ (0 ≤ a ∧ a ≤ (p.length : Int) - 1) → R = (3, [])) → (c ≠ 0 → R = (c, [])) → Ev (fun k => impl_KidsOf.f k p a) R := by
    intro R h1 h2 h3
    unfold impl_KidsOf.f
    refine Pl.ev_bind' im ?_
    simp only [hpl, codeIf_eq, Option.bind_some]
    refine Pl.ev_bind' (firstCode_ev _ (by simp)) ?_
    rw [f1of2]
    by_cases hc : c = 0
    · rw [if_pos hc]
      by_cases hr : 0 ≤ a ∧ a ≤ (p.length : Int) - 1
      · rw [decide_eq_true hr]
        exact Pl.ev_ite_pos rfl (h1 hc hr)
      · rw [decide_eq_false hr, h2 hc hr]
        exact Pl.ev_ite_neg (by simp) (Ev.now _)
    · rw [if_neg hc, h3 hc]
      exact Pl.ev_ite_neg hc (Ev.now _)
  by_cases hc : c = 0
  · by_cases hr : 0 ≤ a ∧ a ≤ (p.length : Int) - 1
    · refine ⟨0, kidsC p a p.length, Nat.le_trans (kidsC_len _ _ _) hl, ?_, impl _ (fun _ _ => Pl.ev_bind' (implKids_ev p hl (ok hc).2 a hr.1) (Ev.now _)) (fun _ h' => absurd hr h') (fun h' => absurd hc h')⟩
      unfold spec_KidsOf.f
      refine Pl.ev_bind' sp (Pl.ev_ite_pos hc ?_)
      simp only [hin, Option.bind_some]
      exact Pl.ev_ite_pos (decide_eq_true hr) (Pl.ev_bind' (specKids_ev p hl a) (Ev.now _))
    · refine ⟨3, [], by simp, ?_, impl _ (fun _ h' => absurd h' hr) (fun _ _ => rfl) (fun h' => absurd hc h')⟩
      unfold spec_KidsOf.f
      refine Pl.ev_bind' sp (Pl.ev_ite_pos hc ?_)
      simp only [hin, Option.bind_some]
      exact Pl.ev_ite_neg (by simpa using hr) (Ev.now _)
  · refine ⟨c, [], by simp, ?_, impl _ (fun h' => absurd h' hc) (fun h' => absurd h' hc) (fun _ => rfl)⟩
    unfold spec_KidsOf.f
    exact Pl.ev_bind' sp (Pl.ev_ite_neg hc (Ev.now _))
end Go.Proofs.Ytbjakfnfjndccaa.T
namespace Go.Proofs.Ytbjakfnfjndccaa.Pure
open Go.RowKit Go.Proofs.Ytbjakfnfjndccaa Go.Proofs.Ytbjakfnfjndccaa.T Go.Proofs.YtbjakfnfjndccaaW.PrintWords Go.Proofs.YtbjakfnfjndccaaW.PrintLast
theorem FnExactKidsOf : laws_FnExactKidsOf.Pure := by
  intro a at' ha hat
  refine Ev.rounds (g := fun k => laws_FnExactKidsOf.f k a at') ?_
  unfold laws_FnExactKidsOf.f
  obtain ⟨r, r0, r1, r2, r3⟩ := szElemS_ev a ha.1 ha.2 1048576 (by omega) (by omega)
  refine Pl.ev_bind' r3 ?_
  by_cases hr : r < 0
  · exact Pl.ev_ite_pos hr (Ev.now _)
  · refine Pl.ev_ite_neg hr ?_
    obtain ⟨a1, a2⟩ := r2 (by omega)
    have ta := toElemS_ev a a1 a2
    have la : (a.map toElem).length ≤ 1048576 := by simpa using a1
    have ba : ∀ y ∈ a.map toElem, y.f2.length ≤ 1048576 := by
      intro y hy
      obtain ⟨z, hz, rfl⟩ := List.mem_map.1 hy
      simpa [toElem] using (a2 z hz).2.1
    obtain ⟨c, l, hl, s, m⟩ := kids_ev (a.map toElem) la (sizedE_map a a2) at'
    obtain ⟨t, ht, h0⟩ := markElem_some _ la ba
    have eqi := eqInts_ev c l hl
    have mk := markInts_ev c l hl
    have hd := heldInts_ev c l.length hl
    refine Pl.ev_bind' ta (Pl.ev_bind' s (Pl.ev_bind' ta (Pl.ev_bind' m (Pl.ev_bind' eqi (Pl.ev_ite_pos rfl (Pl.ev_bind' ta (Pl.ev_bind' (eqElemS_ev _ la ba) (Pl.ev_ite_pos rfl ?_))))))))
    simp only [ht, Option.bind_some]
    refine Pl.ev_ite_neg h0 (Pl.ev_bind' eqi ?_)
    refine Ev.step (fun k => by rw [laws_FnExactKidsOf.j0]) ?_
    refine Pl.ev_ite_neg (by simp) (Pl.ev_bind' mk (Pl.ev_bind' hd (Pl.ev_ite_neg (by omega) (Pl.ev_ite_pos rfl (Pl.ev_bind' ta (Pl.ev_bind' m (Pl.ev_bind' eqi (Pl.ev_ite_pos rfl (Pl.ev_bind' hd (Pl.ev_ite_neg (by omega) (Pl.ev_ite_pos rfl (Ev.now _))))))))))))
end Go.Proofs.Ytbjakfnfjndccaa.Pure
