/- FnExactFlowsTo: for every graph and every place the program's FlowsTo answers what the reference's answers, turns nothing of the graph, keeps nothing of it, and its answer owns its memory; no condition. -/
import Derived.Test.YtcpcenhpmcfmjaaUAll
import Derived.Test.YtcpcenhpmcfmjaaFSFnExactFlowsTo
import Derived.Test.YtcpcenhpmcfmjaaF13
import Derived.Test.YtcpcenhpmcfmjaaF3
import Derived.Test.YtcpcenhpmcfmjaaF8
namespace Go.Proofs.Ytcpcenhpmcfmjaa.F
set_option linter.unusedVariables false
set_option linter.unusedSimpArgs false
open Go.RowKit Go.Proofs.Ytcpcenhpmcfmjaa Go.Proofs.YtcpcenhpmcfmjaaW.PrintWords Go.Proofs.YtcpcenhpmcfmjaaW.PrintLast
abbrev rdF (f : List FL) (j : Int) : FL := rd_T106 f j
def flowsC (f : List FL) (a : Int) (n : Nat) : List Int := ((List.range n).filter fun (j : Nat) => decide ((rdF f (j : Int)).f1 = a)).map fun (j : Nat) => (j : Int)
theorem flowsC_len (f : List FL) (a : Int) (n : Nat) : (flowsC f a n).length ≤ n := by
  unfold flowsC
  rw [List.length_map]
  have := List.length_filter_le (fun (j : Nat) => decide ((rdF f (j : Int)).f1 = a)) (List.range n)
  simpa using this
theorem flowsC_succ (f : List FL) (a : Int) (n : Nat) : flowsC f a (n + 1) = flowsC f a n ++ (if (rdF f (n : Int)).f1 = a then [(n : Int)] else []) := by
  unfold flowsC
  rw [List.range_succ, List.filter_append, List.map_append]
  congr 1
  by_cases h : (rdF f (n : Int)).f1 = a
  · simp [h]
  · simp [h]
theorem specFlows_ev (g : List GN) (f : List FL) (hf : f.length ≤ 1048576) (a : Int) : Ev (fun k => spec_l6To.f k (⟨g, f⟩ : S34) a) (flowsC f a f.length) := by
  unfold spec_l6To.f
  refine Pl.loop (σ := List Int) (n := f.length) (g := fun k i s => spec_l6To.l0 k (⟨g, f⟩ : S34) a s i) (F := fun _ _ => flowsC f a f.length) (fun i s => s = flowsC f a i) ?_ ?_ 0 [] (Nat.zero_le _) rfl
  · intro s hs
    refine Ev.step (fun k => by rw [spec_l6To.l0, rd_oneG]) ?_
    rw [hs]
    exact Pl.ev_ite_neg (by simp) (Ev.now _)
  · intro i s hi hs ih
    have e := flowsC_succ f a i
    have hle := flowsC_len f a i
    refine Ev.step (fun k => by rw [spec_l6To.l0, rd_oneG]) ?_
    rw [Pl.wrap_nat (show i < 9223372036854775807 by omega)]
    refine Pl.ev_ite_pos (show (i : Int) < (f.length : Int) by omega) (Pl.ev_ite_pos (by omega) ?_)
    by_cases h : (rdF f (i : Int)).f1 = a
    · rw [if_pos h] at e
      exact Pl.ev_ite_pos h (Pl.ev_ite_pos (by rw [hs]; omega) (ih _ (by rw [hs, e])))
    · rw [if_neg h, List.append_nil] at e
      exact Pl.ev_ite_neg h (ih _ (by rw [hs, e]))
theorem implFlows_ev (g : List GN) (f : List FL) (hf : f.length ≤ 1048576) (a : Int) : Ev (fun k => impl_Graph_flowsTo.f k g f a) (flowsC f a f.length) := by
  unfold impl_Graph_flowsTo.f impl_Graph_flows__impl_Graph_flowsTo_1.f
  refine Pl.ev_bind' (a := flowsC f a f.length) ?_ (Ev.now _)
  refine Pl.loop (σ := List Int) (n := f.length) (g := fun k i s => impl_Graph_flows__impl_Graph_flowsTo_1.l0 k s f (f.length : Int) i a) (F := fun _ _ => flowsC f a f.length) (fun i s => s = flowsC f a i) ?_ ?_ 0 [] (Nat.zero_le _) rfl
  · intro s hs
    refine Ev.step (fun k => by rw [impl_Graph_flows__impl_Graph_flowsTo_1.l0]) ?_
    rw [hs]
    exact Pl.ev_ite_neg (by omega) (Ev.now _)
  · intro i s hi hs ih
    have e := flowsC_succ f a i
    have hle := flowsC_len f a i
    refine Ev.step (fun k => by rw [impl_Graph_flows__impl_Graph_flowsTo_1.l0]) ?_
    rw [Pl.wrap_nat (show i < 9223372036854775807 by omega)]
    refine Pl.ev_ite_pos (by omega) (Pl.ev_ite_pos (by omega) (Pl.ev_ite_pos (by omega) ?_))
    refine Pl.ev_bind' (a := ((rdF f (i : Int)).f1 == a)) (Ev.now _) ?_
    by_cases h : (rdF f (i : Int)).f1 = a
    · rw [if_pos h] at e
      exact Pl.ev_ite_pos (beq_iff_eq.2 h) (Pl.ev_ite_pos (by rw [hs]; omega) (ih _ (by rw [hs, e])))
    · rw [if_neg h, List.append_nil] at e
      exact Pl.ev_ite_neg (by simpa using h) (ih _ (by rw [hs, e]))
theorem flows_ev (g : List GN) (f : List FL) (hg : cG g) (hf : cF f) (a : Int) : ∃ (c : Int) (l : List Int), l.length ≤ 1048576 ∧ Ev (fun k => spec_FlowsTo.f k g f a) (c, l) ∧ Ev (fun k => impl_FlowsTo.f k g f a) (c, l) := by
  have hgl := hg.1
  have hfl := hf.1
  have s := specG6_ev g f hg hf
  have m := implGraph_ev g f hg hf
  have hpl : impl_isPlace.f a (g.length : Int) = some (decide (0 ≤ a ∧ a ≤ (g.length : Int) - 1)) := by
    unfold impl_isPlace.f
    rw [inRange_eq, Option.bind_some, Pl.wrap_in (by omega) (by omega)]
  have hin : spec_l1In.f a 0 (wrap64 ((g.length : Int) - 1)) = some (decide (0 ≤ a ∧ a ≤ (g.length : Int) - 1)) := by rw [l1In_eq, Pl.wrap_in (by omega) (by omega)]
  have asked : Ev (fun k => spec_l6Asked.f k (⟨g, f⟩ : S34) a) (if grC g f = 0 then (if 0 ≤ a ∧ a ≤ (g.length : Int) - 1 then 0 else 3) else grC g f) := by
    unfold spec_l6Asked.f
    refine Pl.ev_bind' s ?_
    rw [rd_oneG]
    simp only [hin, Option.bind_some]
    by_cases hc : grC g f = 0
    · by_cases hr : 0 ≤ a ∧ a ≤ (g.length : Int) - 1
      · exact Pl.ev_to (Pl.ev_ite_pos hc (Pl.ev_ite_pos (decide_eq_true hr) (Ev.now _))) (by rw [if_pos hc, if_pos hr])
      · exact Pl.ev_to (Pl.ev_ite_pos hc (Pl.ev_ite_neg (by simpa using hr) (Ev.now _))) (by rw [if_pos hc, if_neg hr])
    · exact Pl.ev_to (Pl.ev_ite_neg hc (Ev.now _)) (by rw [if_neg hc])
  have node : Ev (fun k => impl_nodeCode.f k g f a) (if grC g f = 0 then (if 0 ≤ a ∧ a ≤ (g.length : Int) - 1 then 0 else 3) else grC g f) := by
    unfold impl_nodeCode.f
    refine Pl.ev_bind' m ?_
    simp only [hpl, codeIf_eq, Option.bind_some]
    refine Pl.ev_bind' (firstCode_ev _ (by simp)) (Pl.ev_to (Ev.now _) ?_)
    unfold Pl.firstC Pl.firstC Pl.firstC
    by_cases hc : grC g f = 0
    · rw [if_pos hc, if_pos hc]
      by_cases hr : 0 ≤ a ∧ a ≤ (g.length : Int) - 1
      · simp [hr]
      · simp [hr]
    · rw [if_neg hc, if_neg hc]
  generalize (if grC g f = 0 then (if 0 ≤ a ∧ a ≤ (g.length : Int) - 1 then (0 : Int) else 3) else grC g f) = c at asked node
  by_cases hc : c = 0
  · refine ⟨0, flowsC f a f.length, Nat.le_trans (flowsC_len _ _ _) hfl, ?_, ?_⟩
    · unfold spec_FlowsTo.f
      exact Pl.ev_bind' asked (Pl.ev_ite_pos hc (Pl.ev_bind' (specFlows_ev g f hfl a) (Ev.now _)))
    · unfold impl_FlowsTo.f
      exact Pl.ev_bind' node (Pl.ev_ite_pos hc (Pl.ev_bind' (implFlows_ev g f hfl a) (Ev.now _)))
  · refine ⟨c, [], by simp, ?_, ?_⟩
    · unfold spec_FlowsTo.f
      exact Pl.ev_bind' asked (Pl.ev_ite_neg hc (Ev.now _))
    · unfold impl_FlowsTo.f
      exact Pl.ev_bind' node (Pl.ev_ite_neg hc (Ev.now _))
end Go.Proofs.Ytcpcenhpmcfmjaa.F
namespace Go.Proofs.Ytcpcenhpmcfmjaa.Pure
open Go.RowKit Go.Proofs.Ytcpcenhpmcfmjaa Go.Proofs.Ytcpcenhpmcfmjaa.F Go.Proofs.YtcpcenhpmcfmjaaW.PrintWords Go.Proofs.YtcpcenhpmcfmjaaW.PrintLast
theorem FnExactFlowsTo : laws_FnExactFlowsTo.Pure := by
  intro a at' ha hat
  refine Ev.rounds (g := fun k => laws_FnExactFlowsTo.f k a.f0 a.f1 at') ?_
  unfold laws_FnExactFlowsTo.f
  obtain ⟨r, r0, r1, r2, r3⟩ := szGraph_ev a ha 1048576 (by omega) (by omega)
  refine Pl.ev_bind' r3 ?_
  by_cases hr : r < 0
  · exact Pl.ev_ite_pos hr (Ev.now _)
  · refine Pl.ev_ite_neg hr ?_
    have ba := r2 (by omega)
    have ta := toGraph_ev a ba
    have hg := cG_to a ba
    have hf := cF_to a ba
    obtain ⟨c, l, hl, s, m⟩ := flows_ev _ _ hg hf at'
    obtain ⟨t, ht, h0⟩ := markGraph_some _ _ hg hf
    have eqi := eqInts_ev c l hl
    have mk := markInts_ev c l hl
    have hd := heldInts_ev c l.length hl
    refine Pl.ev_bind' ta (Pl.ev_bind' s (Pl.ev_bind' ta (Pl.ev_bind' m (Pl.ev_bind' eqi (Pl.ev_ite_pos rfl (Pl.ev_bind' ta (Pl.ev_bind' (eqGraph_ev _ _ hg hf) (Pl.ev_ite_pos rfl ?_))))))))
    simp only [ht, Option.bind_some]
    refine Pl.ev_ite_neg h0 (Pl.ev_bind' eqi ?_)
    refine Ev.step (fun k => by rw [laws_FnExactFlowsTo.j0]) ?_
    refine Pl.ev_ite_neg (by simp) (Pl.ev_bind' mk (Pl.ev_bind' hd (Pl.ev_ite_neg (by omega) (Pl.ev_ite_pos rfl (Pl.ev_bind' ta (Pl.ev_bind' m (Pl.ev_bind' eqi (Pl.ev_ite_pos rfl (Pl.ev_bind' hd (Pl.ev_ite_neg (by omega) (Pl.ev_ite_pos rfl (Ev.now _))))))))))))
end Go.Proofs.Ytcpcenhpmcfmjaa.Pure
