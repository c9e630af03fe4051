/- FnExactDeepOf: for every list of steps the program's DeepOf answers what the reference's answers, and turns none of them; no condition. -/
import Derived.Test.YtcpcenhpmcfmjaaUAll
import Derived.Test.YtcpcenhpmcfmjaaPSFnExactDeepOf
import Derived.Test.YtcpcenhpmcfmjaaP18
namespace Go.Proofs.Ytcpcenhpmcfmjaa.P
set_option linter.unusedVariables false
set_option linter.unusedSimpArgs false
open Go.RowKit Go.Proofs.Ytcpcenhpmcfmjaa Go.Proofs.YtcpcenhpmcfmjaaW.PrintWords Go.Proofs.YtcpcenhpmcfmjaaW.PrintLast
theorem implDeep_ev {p : List St} (h : treeOk p p.length) (h24 : p.length ≤ 24) : ∀ (m : Nat) (at' : Int), at'.toNat + 1 = m → -1 ≤ at' → at' < p.length → ∀ c, 0 ≤ c → c + deep p at' ≤ 50 → Ev (fun k => impl_deepOf.l0 k p at' c) (c + deep p at') := by
  intro m
  induction m using Nat.strongRecOn with
  | _ m ih =>
    intro at' hm h0 h1 c hc hd
    refine Ev.step (fun k => by rw [impl_deepOf.l0]) ?_
    by_cases hn' : at' < 0
    · obtain rfl : at' = -1 := by omega
      exact Pl.ev_ite_neg (by omega) (Pl.ev_to (Ev.now _) (by rw [deep_neg]; omega))
    · obtain ⟨a, b⟩ := treeOk_lt h (by omega) h1
      have e := deep_at h (by omega) ⟨a, b⟩ (by omega)
      have hle := deep_le h _ at' rfl h0 h1
      have hle2 := deep_le h _ (pr p at') rfl a (by omega)
      refine Pl.ev_ite_pos (by omega) (Pl.ev_ite_pos (by omega) (Pl.ev_ite_pos (by omega) ?_))
      rw [Pl.wrap_in (by omega) (by omega), e, show c + (deep p (pr p at') + 1) = c + 1 + deep p (pr p at') from by omega]
      by_cases h2 : pr p at' < 0
      · refine Ev.step (fun k => by rw [impl_deepOf.l0]) ?_
        refine Pl.ev_ite_neg (show ¬ pr p at' ≥ 0 by omega) (Pl.ev_to (Ev.now _) ?_)
        have h3 : pr p at' = -1 := by omega
        have h5 : deep p (pr p at') = 0 := by rw [h3, deep_neg]
        omega
      · exact ih ((pr p at').toNat + 1) (by omega) _ rfl a (by omega) (c + 1) (by omega) (by omega)
/-- The greatest depth of the first steps. -/
def mostC (p : List St) : Nat → Int
  | 0 => 0
  | n + 1 => max (mostC p n) (deep p (n : Int))
theorem deepOf_ev (p : List St) (hl : p.length ≤ 1048576) (hz : sized p) : ∃ c v : Int, Ev (fun k => spec_DeepOf.f k p) (c, v) ∧ Ev (fun k => impl_DeepOf.f k p) (c, v) := by
  obtain ⟨c, s, m, n⟩ := proc_ev p hl hz
  by_cases hc : c = 0
  · obtain ⟨h24, ht, _⟩ := n hc
    refine ⟨0, mostC p p.length, ?_, ?_⟩
    · unfold spec_DeepOf.f
      refine Pl.ev_bind' s (Pl.ev_ite_pos hc ?_)
      refine Pl.loop (σ := Int) (n := p.length) (g := fun k i s => spec_DeepOf.l0 k p s i) (F := fun _ _ => ((0 : Int), mostC p p.length)) (fun i s => s = mostC p i) ?_ ?_ 0 0 (Nat.zero_le _) rfl
      · intro s hs
        refine Ev.step (fun k => by rw [spec_DeepOf.l0]) ?_
        rw [hs]
        exact Pl.ev_ite_neg (by omega) (Ev.now _)
      · intro i s hi hs ih
        have hle := deep_le ht _ (i : Int) rfl (by omega) (by omega)
        have hd := specDeep_ev ht (Nat.le_refl _) h24.2 _ (i : Int) rfl (by omega) (by omega) 0 (by omega) (by omega)
        rw [Int.zero_add] at hd
        refine Ev.step (fun k => by rw [spec_DeepOf.l0]) ?_
        refine Pl.ev_ite_pos (by omega) (Pl.ev_bind' (by unfold spec_l4Deep.f; exact hd) ?_)
        rw [Pl.wrap_nat (show i < 9223372036854775807 by omega)]
        have e : spec_l1Max.f s (deep p (i : Int)) = some (mostC p (i + 1)) := by
          unfold spec_l1Max.f
          rw [show mostC p (i + 1) = max (mostC p i) (deep p (i : Int)) from rfl, hs]
          by_cases h : mostC p i > deep p (i : Int)
          · rw [if_pos h]; congr 1; omega
          · rw [if_neg h]; congr 1; omega
        simp only [e, Option.bind_some]
        exact ih _ rfl
    · unfold impl_DeepOf.f
      refine Pl.ev_bind' m (Pl.ev_ite_pos hc ?_)
      refine Pl.loop (σ := Int) (n := p.length) (g := fun k i s => impl_DeepOf.l0 k p s (p.length : Int) i) (F := fun _ _ => ((0 : Int), mostC p p.length)) (fun i s => s = mostC p i) ?_ ?_ 0 0 (Nat.zero_le _) rfl
      · intro s hs
        refine Ev.step (fun k => by rw [impl_DeepOf.l0]) ?_
        rw [hs]
        exact Pl.ev_ite_neg (by omega) (Ev.now _)
      · intro i s hi hs ih
        have hle := deep_le ht _ (i : Int) rfl (by omega) (by omega)
        have hd := implDeep_ev ht h24.2 _ (i : Int) rfl (by omega) (by omega) 0 (by omega) (by omega)
        rw [Int.zero_add] at hd
        refine Ev.step (fun k => by rw [impl_DeepOf.l0]) ?_
        refine Pl.ev_ite_pos (by omega) (Pl.ev_bind' (by unfold impl_deepOf.f; exact hd) ?_)
        rw [Pl.wrap_nat (show i < 9223372036854775807 by omega)]
        have e : mx s (deep p (i : Int)) = mostC p (i + 1) := by
          rw [show mostC p (i + 1) = max (mostC p i) (deep p (i : Int)) from rfl, hs]
          unfold mx
          split <;> omega
        rw [e]
        exact ih _ rfl
  · refine ⟨c, 0, ?_, ?_⟩
    · unfold spec_DeepOf.f
      exact Pl.ev_bind' s (Pl.ev_ite_neg hc (Ev.now _))
    · unfold impl_DeepOf.f
      exact Pl.ev_bind' m (Pl.ev_ite_neg hc (Ev.now _))
end Go.Proofs.Ytcpcenhpmcfmjaa.P
namespace Go.Proofs.Ytcpcenhpmcfmjaa.Pure
open Go.RowKit Go.Proofs.Ytcpcenhpmcfmjaa Go.Proofs.Ytcpcenhpmcfmjaa.P Go.Proofs.YtcpcenhpmcfmjaaW.PrintWords Go.Proofs.YtcpcenhpmcfmjaaW.PrintLast
theorem FnExactDeepOf : laws_FnExactDeepOf.Pure := by
  intro a ha
  refine Ev.rounds (g := fun k => laws_FnExactDeepOf.f k a) ?_
  unfold laws_FnExactDeepOf.f
  obtain ⟨r, r0, r1, r2, r3⟩ := szStepS_ev a ha.1 ha.2 1048576 (by omega) (by omega)
  refine Pl.ev_bind' r3 ?_
  by_cases hr : r < 0
  · exact Pl.ev_ite_pos hr (Ev.now _)
  · refine Pl.ev_ite_neg hr ?_
    obtain ⟨a1, a2⟩ := r2 (by omega)
    have ta := toStepS_ev a a1 a2
    have la : (a.map toStep).length ≤ 1048576 := by simpa using a1
    have ba : ∀ y ∈ a.map toStep, y.f4.length ≤ 1048576 ∧ y.f5.length ≤ 1048576 := by
      intro y hy
      obtain ⟨z, hz, rfl⟩ := List.mem_map.1 hy
      have := a2 z hz
      simpa [toStep] using this.2
    obtain ⟨c, v, s, m⟩ := deepOf_ev (a.map toStep) la (sized_map a a2)
    refine Pl.ev_bind' ta ?_
    refine Pl.ev_bind' s ?_
    refine Pl.ev_bind' ta ?_
    refine Pl.ev_bind' m ?_
    have e : laws_eqIntResult.f c v c v = some true := by unfold laws_eqIntResult.f; rw [if_pos rfl, if_pos rfl]
    refine Pl.ev_bind' (g := fun _ => laws_eqIntResult.f c v c v) (by rw [e]; exact Ev.now _) ?_
    refine Pl.ev_ite_pos rfl ?_
    refine Pl.ev_bind' ta ?_
    refine Pl.ev_bind' (eqStepS_ev _ la ba) ?_
    exact Pl.ev_ite_pos rfl (Ev.now _)
end Go.Proofs.Ytcpcenhpmcfmjaa.Pure
