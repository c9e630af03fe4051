/- Two graphs: the program and the reference say the same of whether they are the same. No condition. -/
import Derived.Test.YtjlcajhlggoleaaUGraph
import Derived.Test.YtjlcajhlggoleaaG3
import Derived.Test.YtjlcajhlggoleaaG2
import Derived.Test.YtjlcajhlggoleaaG6
import Derived.Test.YtjlcajhlggoleaaG5
import Derived.Test.YtjlcajhlggoleaaG4
namespace Go.Proofs.Ytjlcajhlggoleaa.G
set_option linter.unusedVariables false
set_option linter.unusedSimpArgs false
open Go.RowKit Go.Proofs.Ytjlcajhlggoleaa Go.Proofs.YtjlcajhlggoleaaW.PrintWords Go.Proofs.YtjlcajhlggoleaaW.PrintLast
def sameN (x y : S77) : Bool := (x.f0 == y.f0) && ((x.f1 == y.f1) && ((x.f2 == y.f2) && (x.f3 == y.f3)))
def sameNs : List S77 → List S77 → Bool
  | [], [] => true
  | x :: l, y :: m => sameN x y && sameNs l m
  | _, _ => false
def sameG (x y : S115) : Bool := (x.f0 == y.f0) && (x.f1 == y.f1) && (x.f2.toList == y.f2.toList) && (x.f3 == y.f3) && sameNs x.f4 y.f4
def sameGs : List S115 → List S115 → Bool
  | [], [] => true
  | x :: l, y :: m => sameG x y && sameGs l m
  | _, _ => false
def sameF (x y : S119) : Bool := (x.f0 == y.f0) && (x.f1 == y.f1) && sameNs x.f2 y.f2
def sameFs : List S119 → List S119 → Bool
  | [], [] => true
  | x :: l, y :: m => sameF x y && sameFs l m
  | _, _ => false
theorem sameNs_len : ∀ l m, l.length ≠ m.length → sameNs l m = false
  | [], [], h => absurd rfl h
  | [], _ :: _, _ => rfl
  | _ :: _, [], _ => rfl
  | x :: l, y :: m, h => by rw [sameNs, sameNs_len l m (fun e => h (by simp [e])), Bool.and_false]
theorem sameGs_len : ∀ l m, l.length ≠ m.length → sameGs l m = false
  | [], [], h => absurd rfl h
  | [], _ :: _, _ => rfl
  | _ :: _, [], _ => rfl
  | x :: l, y :: m, h => by rw [sameGs, sameGs_len l m (fun e => h (by simp [e])), Bool.and_false]
theorem sameFs_len : ∀ l m, l.length ≠ m.length → sameFs l m = false
  | [], [], h => absurd rfl h
  | [], _ :: _, _ => rfl
  | _ :: _, [], _ => rfl
  | x :: l, y :: m, h => by rw [sameFs, sameFs_len l m (fun e => h (by simp [e])), Bool.and_false]
theorem sameN_test (x y : S77) : ((!(x.f0 == y.f0) || (!(x.f1 == y.f1) || (!(x.f2 == y.f2) || (!(x.f3 == y.f3))))) = true) ↔ sameN x y = false := by
  unfold sameN
  cases (x.f0 == y.f0) <;> cases (x.f1 == y.f1) <;> cases (x.f2 == y.f2) <;> cases (x.f3 == y.f3) <;> simp
theorem implNs_ev (l m : List S77) (hl : l.length ≤ 1048576) : Ev (fun k => impl_sameExpr.f k l m) (sameNs l m) := by
  unfold impl_sameExpr.f
  refine Pl.ev_bind' (a := sameNs l m) ?_ (Ev.now _)
  unfold slices_Equal_Node_Node.f
  simp only [Pl.ev_ite]
  split
  · rename_i h
    have hm : l.length = m.length := by omega
    have := Pl.loop0 (n := l.length) (g := fun k i => slices_Equal_Node_Node.l0 k l m (l.length : Int) i) (F := fun i => sameNs (l.drop i) (m.drop i)) ?_ (fun i hi ih => ?_) 0 (Nat.zero_le _)
    · simpa using this
    · refine Ev.step (fun k => by rw [slices_Equal_Node_Node.l0]) ?_
      simp only [Pl.ev_ite, Pl.ev_some]
      rw [if_neg (by omega), List.drop_length, show List.drop l.length m = [] from by rw [hm]; exact List.drop_length]
      rfl
    · refine Ev.step (fun k => by rw [slices_Equal_Node_Node.l0]) ?_
      have hi' : i < m.length := by omega
      simp only [Pl.ev_ite, Pl.ev_some, Pl.ev_none, rd_iNode l i hi, rd_iNode m i hi', Pl.drop_get hi, Pl.drop_get hi', sameNs, sameN_test, Pl.wrap_nat (show i < 9223372036854775807 by omega)]
      rw [if_pos (by omega), if_pos (by omega), if_pos (by omega), if_pos (by omega)]
      cases h2 : sameN l[i] m[i]
      · simp
      · simpa using ih
  · rename_i h
    exact Pl.ev_some.2 (sameNs_len l m (by omega)).symm
theorem specNs_ev (l m : List S77) (hl : l.length ≤ 1048576) : Ev (fun k => spec_l4SameExpr.f k l m) (sameNs l m) := by
  unfold spec_l4SameExpr.f
  simp only [Pl.ev_ite]
  split
  · rename_i h
    have hm : l.length = m.length := by omega
    have := Pl.loop0 (n := l.length) (g := fun k i => spec_l4SameExpr.l0 k l m i) (F := fun i => sameNs (l.drop i) (m.drop i)) ?_ (fun i hi ih => ?_) 0 (Nat.zero_le _)
    · simpa using this
    · refine Ev.step (fun k => by rw [spec_l4SameExpr.l0]) ?_
      simp only [Pl.ev_ite, Pl.ev_some]
      rw [if_neg (by omega), List.drop_length, show List.drop l.length m = [] from by rw [hm]; exact List.drop_length]
      rfl
    · refine Ev.step (fun k => by rw [spec_l4SameExpr.l0]) ?_
      have hi' : i < m.length := by omega
      simp only [Pl.ev_ite, Pl.ev_some, Pl.ev_none, rd_iNode l i hi, rd_iNode m i hi', Pl.drop_get hi, Pl.drop_get hi', sameNs, sameN_test, Pl.wrap_nat (show i < 9223372036854775807 by omega)]
      rw [if_pos (by omega), if_pos (by omega), if_pos (by omega)]
      cases h2 : sameN l[i] m[i]
      · simp
      · simpa using ih
  · rename_i h
    exact Pl.ev_some.2 (sameNs_len l m (by omega)).symm
theorem implG_ev (x y : S115) (h4 : x.f4.length ≤ 1048576) : Ev (fun k => impl_SameGraphs_1.f k x.f0 x.f1 x.f2 x.f3 x.f4 y.f0 y.f1 y.f2 y.f3 y.f4) (sameG x y) := by
  unfold impl_SameGraphs_1.f
  refine Pl.ev_bind' (a := (x.f0 == y.f0) && (x.f2.toList == y.f2.toList) && (x.f3 == y.f3) && sameNs x.f4 y.f4) ?_ ?_
  · unfold impl_sameButStep.f
    simp only [Pl.ev_ite]
    by_cases e0 : x.f0 = y.f0
    · rw [if_pos e0]
      by_cases e2 : x.f2.toList = y.f2.toList
      · rw [if_pos e2]
        by_cases e3 : x.f3 = y.f3
        · rw [if_pos e3]
          exact Pl.ev_bind' (implNs_ev _ _ h4) (by simp [Pl.ev_some, e0, e2, e3])
        · rw [if_neg e3]; exact Pl.ev_some.2 (by simp [e3])
      · rw [if_neg e2]; exact Pl.ev_some.2 (by simp [e2])
    · rw [if_neg e0]; exact Pl.ev_some.2 (by simp [e0])
  · unfold sameG
    simp only [Pl.ev_ite, Pl.ev_some]
    cases (x.f0 == y.f0) <;> cases (x.f1 == y.f1) <;> cases (x.f2.toList == y.f2.toList) <;> cases (x.f3 == y.f3) <;> cases sameNs x.f4 y.f4 <;> simp
theorem implF_ev (x y : S119) (h4 : x.f2.length ≤ 1048576) : Ev (fun k => impl_sameFlow.f k x.f0 x.f1 x.f2 y.f0 y.f1 y.f2) (sameF x y) := by
  unfold impl_sameFlow.f sameF
  simp only [Pl.ev_ite]
  by_cases e0 : x.f0 = y.f0
  · rw [if_pos e0]
    by_cases e1 : x.f1 = y.f1
    · rw [if_pos e1]
      exact Pl.ev_bind' (implNs_ev _ _ h4) (by simp [Pl.ev_some, e0, e1])
    · rw [if_neg e1]; exact Pl.ev_some.2 (by simp [e1])
  · rw [if_neg e0]; exact Pl.ev_some.2 (by simp [e0])
theorem implGs_ev (l m : List S115) (hc : cG l) : Ev (fun k => slices_EqualFunc_GNode_GNode_GNode_GNode__impl_SameGraphs_1.f k l m) (sameGs l m) := by
  obtain ⟨hl, hb⟩ := hc
  unfold slices_EqualFunc_GNode_GNode_GNode_GNode__impl_SameGraphs_1.f
  simp only [Pl.ev_ite]
  split
  · rename_i h
    have hm : l.length = m.length := by omega
    have := Pl.loop0 (n := l.length) (g := fun k i => slices_EqualFunc_GNode_GNode_GNode_GNode__impl_SameGraphs_1.l0 k m l (l.length : Int) i) (F := fun i => sameGs (l.drop i) (m.drop i)) ?_ (fun i hi ih => ?_) 0 (Nat.zero_le _)
    · simpa using this
    · refine Ev.step (fun k => by rw [slices_EqualFunc_GNode_GNode_GNode_GNode__impl_SameGraphs_1.l0]) ?_
      simp only [Pl.ev_ite, Pl.ev_some]
      rw [if_neg (by omega), List.drop_length, show List.drop l.length m = [] from by rw [hm]; exact List.drop_length]
      rfl
    · refine Ev.step (fun k => by rw [slices_EqualFunc_GNode_GNode_GNode_GNode__impl_SameGraphs_1.l0]) ?_
      have hi' : i < m.length := by omega
      simp only [Pl.ev_ite, Pl.ev_some, Pl.ev_none, rd_iGNode l i hi, rd_iGNode m i hi', Pl.drop_get hi, Pl.drop_get hi', sameGs, Pl.wrap_nat (show i < 9223372036854775807 by omega)]
      rw [if_pos (by omega), if_pos (by omega), if_pos (by omega), if_pos (by omega)]
      refine Pl.ev_bind' (implG_ev l[i] m[i] (hb _ (List.getElem_mem hi)).2) ?_
      cases h2 : sameG l[i] m[i]
      · exact Pl.ev_some.2 rfl
      · simpa [h2] using ih
  · rename_i h
    exact Pl.ev_some.2 (sameGs_len l m (by omega)).symm
theorem implFs_ev (l m : List S119) (hc : cF l) : Ev (fun k => slices_EqualFunc_Flow_Flow_Flow_Flow__impl_sameFlow.f k l m) (sameFs l m) := by
  obtain ⟨hl, hb⟩ := hc
  unfold slices_EqualFunc_Flow_Flow_Flow_Flow__impl_sameFlow.f
  simp only [Pl.ev_ite]
  split
  · rename_i h
    have hm : l.length = m.length := by omega
    have := Pl.loop0 (n := l.length) (g := fun k i => slices_EqualFunc_Flow_Flow_Flow_Flow__impl_sameFlow.l0 k m l (l.length : Int) i) (F := fun i => sameFs (l.drop i) (m.drop i)) ?_ (fun i hi ih => ?_) 0 (Nat.zero_le _)
    · simpa using this
    · refine Ev.step (fun k => by rw [slices_EqualFunc_Flow_Flow_Flow_Flow__impl_sameFlow.l0]) ?_
      simp only [Pl.ev_ite, Pl.ev_some]
      rw [if_neg (by omega), List.drop_length, show List.drop l.length m = [] from by rw [hm]; exact List.drop_length]
      rfl
    · refine Ev.step (fun k => by rw [slices_EqualFunc_Flow_Flow_Flow_Flow__impl_sameFlow.l0]) ?_
      have hi' : i < m.length := by omega
      simp only [Pl.ev_ite, Pl.ev_some, Pl.ev_none, rd_iFlow l i hi, rd_iFlow m i hi', Pl.drop_get hi, Pl.drop_get hi', sameFs, Pl.wrap_nat (show i < 9223372036854775807 by omega)]
      rw [if_pos (by omega), if_pos (by omega), if_pos (by omega), if_pos (by omega)]
      refine Pl.ev_bind' (implF_ev l[i] m[i] (hb _ (List.getElem_mem hi))) ?_
      cases h2 : sameF l[i] m[i]
      · exact Pl.ev_some.2 rfl
      · simpa [h2] using ih
  · rename_i h
    exact Pl.ev_some.2 (sameFs_len l m (by omega)).symm
theorem implGraphs_ev (g g' : List S115) (f f' : List S119) (hg : cG g) (hf : cF f) : Ev (fun k => impl_SameGraphs.f k g f g' f') (sameGs g g' && sameFs f f') := by
  unfold impl_SameGraphs.f
  refine Pl.ev_bind' (implGs_ev g g' hg) ?_
  cases h : sameGs g g'
  · simp [Pl.ev_some]
  · simp only [if_true]
    exact Pl.ev_bind' (implFs_ev f f' hf) (by simp [Pl.ev_some])
theorem rd_oneG (x : S62) : rd_T62 [x] 0 = x := rfl
theorem specGraphs_ev (g g' : List S115) (f f' : List S119) (hg : cG g) (hf : cF f) : Ev (fun k => spec_SameGraphs.f k g f g' f') (sameGs g g' && sameFs f f') := by
  unfold spec_SameGraphs.f
  refine Pl.ev_bind' (a := sameGs g g' && sameFs f f') ?_ (Ev.now _)
  obtain ⟨hgl, hgb⟩ := hg
  obtain ⟨hfl, hfb⟩ := hf
  have fl : f.length = f'.length → Ev (fun k => spec_l6Same.l1 k ⟨g, f⟩ ⟨g', f'⟩ 0) (sameFs f f') := by
    intro hm
    have := Pl.loop0 (n := f.length) (g := fun k i => spec_l6Same.l1 k ⟨g, f⟩ ⟨g', f'⟩ i) (F := fun i => sameFs (f.drop i) (f'.drop i)) ?_ (fun i hi ih => ?_) 0 (Nat.zero_le _)
    · simpa using this
    · refine Ev.step (fun k => by rw [spec_l6Same.l1, rd_oneG, rd_oneG]) ?_
      simp only [Pl.ev_ite, Pl.ev_some]
      rw [if_neg (by omega), List.drop_length, show List.drop f.length f' = [] from by rw [hm]; exact List.drop_length]
      rfl
    · refine Ev.step (fun k => by rw [spec_l6Same.l1, rd_oneG, rd_oneG]) ?_
      have hi' : i < f'.length := by omega
      simp only [Pl.ev_ite, Pl.ev_some, Pl.ev_none, rd_iFlow f i hi, rd_iFlow f' i hi', Pl.drop_get hi, Pl.drop_get hi', sameFs, Pl.wrap_nat (show i < 9223372036854775807 by omega)]
      rw [if_pos (by omega), if_pos (by omega), if_pos (by omega)]
      have b := hfb _ (List.getElem_mem hi)
      generalize f[i] = x at b ⊢
      generalize f'[i] = y
      unfold sameF
      by_cases e0 : x.f0 = y.f0
      · rw [if_pos e0]
        by_cases e1 : x.f1 = y.f1
        · rw [if_pos e1]
          refine Pl.ev_bind' (specNs_ev _ _ b) ?_
          cases e5 : sameNs x.f2 y.f2
          · simp [Pl.ev_some]
          · simpa [e0, e1] using ih
        · rw [if_neg e1]; simp [e1]
      · rw [if_neg e0]; simp [e0]
  have j0 : ∀ b : Bool, (b = true ↔ ¬ (g.length = g'.length ∧ f.length = f'.length)) → Ev (fun k => spec_l6Same.j0 k ⟨g, f⟩ ⟨g', f'⟩ b) (sameGs g g' && sameFs f f') := by
    intro b hb
    refine Ev.step (fun k => by rw [spec_l6Same.j0]) ?_
    simp only [Pl.ev_ite, Pl.ev_some]
    by_cases h : g.length = g'.length ∧ f.length = f'.length
    · rw [if_neg (fun hx => (hb.1 hx) h)]
      obtain ⟨hm, hfm⟩ := h
      have := Pl.loop0 (n := g.length) (g := fun k i => spec_l6Same.l0 k ⟨g, f⟩ ⟨g', f'⟩ i) (F := fun i => sameGs (g.drop i) (g'.drop i) && sameFs f f') ?_ (fun i hi ih => ?_) 0 (Nat.zero_le _)
      · simpa using this
      · refine Ev.step (fun k => by rw [spec_l6Same.l0, rd_oneG, rd_oneG]) ?_
        simp only [Pl.ev_ite, Pl.ev_some]
        rw [if_neg (by omega), List.drop_length, show List.drop g.length g' = [] from by rw [hm]; exact List.drop_length]
        rw [show sameGs [] [] = true from rfl, Bool.true_and]
        exact fl hfm
      · refine Ev.step (fun k => by rw [spec_l6Same.l0, rd_oneG, rd_oneG]) ?_
        have hi' : i < g'.length := by omega
        simp only [Pl.ev_ite, Pl.ev_some, Pl.ev_none, rd_iGNode g i hi, rd_iGNode g' i hi', Pl.drop_get hi, Pl.drop_get hi', sameGs, Pl.wrap_nat (show i < 9223372036854775807 by omega)]
        rw [if_pos (by omega), if_pos (by omega), if_pos (by omega)]
        have b := (hgb _ (List.getElem_mem hi)).2
        generalize g[i] = x at b ⊢
        generalize g'[i] = y
        unfold sameG
        by_cases e0 : x.f0 = y.f0
        · rw [if_pos e0]
          by_cases e1 : x.f1 = y.f1
          · rw [if_pos e1]
            by_cases e2 : x.f2.toList = y.f2.toList
            · rw [if_pos e2]
              by_cases e3 : x.f3 = y.f3
              · rw [if_pos e3]
                refine Pl.ev_bind' (specNs_ev _ _ b) ?_
                cases e5 : sameNs x.f4 y.f4
                · simp [Pl.ev_some]
                · simpa [e0, e1, e2, e3] using ih
              · rw [if_neg e3]; simp [e3]
            · rw [if_neg e2]; simp [e2]
          · rw [if_neg e1]; simp [e1]
        · rw [if_neg e0]; simp [e0]
    · rw [if_pos (hb.2 h)]
      by_cases hm : g.length = g'.length
      · rw [sameFs_len f f' (fun e => h ⟨hm, e⟩), Bool.and_false]
      · rw [sameGs_len g g' hm, Bool.false_and]
  unfold spec_l6Same.f
  rw [rd_oneG, rd_oneG]
  simp only [Pl.ev_ite]
  split
  · rename_i h
    exact j0 _ (by rw [bne_iff_ne]; omega)
  · rename_i h
    exact j0 _ (by simp; omega)
end Go.Proofs.Ytjlcajhlggoleaa.G
