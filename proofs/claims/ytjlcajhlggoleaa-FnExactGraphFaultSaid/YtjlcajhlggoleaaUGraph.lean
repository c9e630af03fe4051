/- What the laws' own sizes, copies and comparisons of graphs come to. No condition. -/
import Derived.Test.YtjlcajhlggoleaaUNode
import Derived.Test.YtjlcajhlggoleaaH1
import Derived.Test.YtjlcajhlggoleaaH2
import Derived.Test.YtjlcajhlggoleaaH4
import Derived.Test.YtjlcajhlggoleaaH3
namespace Go.Proofs.Ytjlcajhlggoleaa.H
set_option linter.unusedVariables false
set_option linter.unusedSimpArgs false
open Go.RowKit Go.Proofs.Ytjlcajhlggoleaa Go.Proofs.YtjlcajhlggoleaaW.PrintWords Go.Proofs.YtjlcajhlggoleaaW.PrintLast
theorem rd_lGNode (l : List S142) (i : Nat) (h : i < l.length) : rd_T142 l (i : Int) = l[i] := Pl.getD_get h
theorem rd_iGNode (l : List S115) (i : Nat) (h : i < l.length) : rd_T115 l (i : Int) = l[i] := Pl.getD_get h
theorem rd_lFlow (l : List S145) (i : Nat) (h : i < l.length) : rd_T145 l (i : Int) = l[i] := Pl.getD_get h
theorem rd_iFlow (l : List S119) (i : Nat) (h : i < l.length) : rd_T119 l (i : Int) = l[i] := Pl.getD_get h
/-- A node of a graph, a flow, copied. -/
def toGNode (x : S142) : S115 := ⟨x.f0, x.f1, x.f2, x.f3, x.f4.map toNode⟩
def toFlow (x : S145) : S119 := ⟨x.f0, x.f1, x.f2.map toNode⟩
def bGNode (x : S142) : Prop := x.f2.size ≤ 1048576 ∧ x.f4.length ≤ 1048576
def bFlow (x : S145) : Prop := x.f2.length ≤ 1048576
theorem szGNode_ev (a : S142) (hw : wf142 a) (x : Int) (h0 : 0 ≤ x) (h1 : x ≤ 1048576) : ∃ r, -1 ≤ r ∧ r ≤ x ∧ (0 ≤ r → bGNode a) ∧ laws_szGNode.f a.f0 a.f1 a.f2 a.f3 a.f4 x = some r := by
  obtain ⟨w0, w1, w2, w3, w4⟩ := hw
  have e : wrap64 (x - (a.f2.size : Int)) = x - (a.f2.size : Int) := Pl.wrap_in (by omega) (by omega)
  unfold laws_szGNode.f
  rw [e]
  by_cases h : x - (a.f2.size : Int) < 0
  · rw [if_pos h]
    exact ⟨-1, by omega, by omega, by omega, rfl⟩
  · rw [if_neg h]
    obtain ⟨r, p, q, c, d⟩ := szNodeS_ev a.f4 w4.1 (x - (a.f2.size : Int)) (by omega) (by omega)
    rw [d, Option.bind_some]
    by_cases hr : r < 0
    · rw [if_pos hr]
      exact ⟨-1, by omega, by omega, by omega, rfl⟩
    · rw [if_neg hr]
      exact ⟨r, p, by omega, fun _ => ⟨by omega, c (by omega)⟩, rfl⟩
theorem szFlow_ev (a : S145) (hw : wf145 a) (x : Int) (h0 : 0 ≤ x) (h1 : x ≤ 1048576) : ∃ r, -1 ≤ r ∧ r ≤ x ∧ (0 ≤ r → bFlow a) ∧ laws_szFlow.f a.f0 a.f1 a.f2 x = some r := by
  obtain ⟨w0, w1, w2⟩ := hw
  unfold laws_szFlow.f
  obtain ⟨r, p, q, c, d⟩ := szNodeS_ev a.f2 w2.1 x h0 h1
  rw [d, Option.bind_some]
  by_cases hr : r < 0
  · rw [if_pos hr]
    exact ⟨-1, by omega, by omega, by omega, rfl⟩
  · rw [if_neg hr]
    exact ⟨r, p, by omega, fun _ => c (by omega), rfl⟩
theorem szGNodeS_ev (l : List S142) (hl : l.length ≤ 9223372036854775807) (hw : ∀ y ∈ l, wf142 y) (x : Int) (h0 : 0 ≤ x) (h1 : x ≤ 1048576) : ∃ r, -1 ≤ r ∧ r ≤ x ∧ (0 ≤ r → l.length ≤ 1048576 ∧ ∀ y ∈ l, bGNode y) ∧ Ev (fun k => laws_szGNodeS.f k l x) r := by
  have e : wrap64 (x - (l.length : Int)) = x - (l.length : Int) := Pl.wrap_in (by omega) (by omega)
  unfold laws_szGNodeS.f
  rw [e]
  by_cases h : x - (l.length : Int) < 0
  · simp only [if_pos h]
    exact ⟨-1, by omega, by omega, by omega, Ev.now _⟩
  · simp only [if_neg h]
    obtain ⟨r, a, b, c, d⟩ := Pl.left (l := l) (B := bGNode) (g := fun k i x => laws_szGNodeS.l0 k l x i) (fun x => by
      refine Ev.step (fun k => by rw [laws_szGNodeS.l0]) ?_
      simp [Pl.ev_some]) (fun i hi x h0 h1 => by
      obtain ⟨r, a, b, c, d⟩ := szGNode_ev l[i] (hw _ (List.getElem_mem hi)) x h0 h1
      refine ⟨r, a, b, c, fun hr => ?_, fun hr R hR => ?_⟩
      · refine Ev.step (fun k => by rw [laws_szGNodeS.l0]) ?_
        simp only [Pl.ev_ite, rd_lGNode l i hi, d, Option.bind_some, if_pos hr]
        rw [if_pos (by omega), if_pos (by omega)]
        exact Ev.now _
      · refine Ev.step (fun k => by rw [laws_szGNodeS.l0]) ?_
        simp only [Pl.ev_ite, rd_lGNode l i hi, d, Option.bind_some, if_neg (show ¬ r < 0 by omega), Pl.wrap_nat (show i < 9223372036854775807 by omega)]
        rw [if_pos (by omega), if_pos (by omega)]
        exact hR) (x - (l.length : Int)) (by omega) (by omega)
    exact ⟨r, a, by omega, fun hr => ⟨by omega, c hr⟩, d⟩
theorem szFlowS_ev (l : List S145) (hl : l.length ≤ 9223372036854775807) (hw : ∀ y ∈ l, wf145 y) (x : Int) (h0 : 0 ≤ x) (h1 : x ≤ 1048576) : ∃ r, -1 ≤ r ∧ r ≤ x ∧ (0 ≤ r → l.length ≤ 1048576 ∧ ∀ y ∈ l, bFlow y) ∧ Ev (fun k => laws_szFlowS.f k l x) r := by
  have e : wrap64 (x - (l.length : Int)) = x - (l.length : Int) := Pl.wrap_in (by omega) (by omega)
  unfold laws_szFlowS.f
  rw [e]
  by_cases h : x - (l.length : Int) < 0
  · simp only [if_pos h]
    exact ⟨-1, by omega, by omega, by omega, Ev.now _⟩
  · simp only [if_neg h]
    obtain ⟨r, a, b, c, d⟩ := Pl.left (l := l) (B := bFlow) (g := fun k i x => laws_szFlowS.l0 k l x i) (fun x => by
      refine Ev.step (fun k => by rw [laws_szFlowS.l0]) ?_
      simp [Pl.ev_some]) (fun i hi x h0 h1 => by
      obtain ⟨r, a, b, c, d⟩ := szFlow_ev l[i] (hw _ (List.getElem_mem hi)) x h0 h1
      refine ⟨r, a, b, c, fun hr => ?_, fun hr R hR => ?_⟩
      · refine Ev.step (fun k => by rw [laws_szFlowS.l0]) ?_
        simp only [Pl.ev_ite, rd_lFlow l i hi, d, Option.bind_some, if_pos hr]
        rw [if_pos (by omega), if_pos (by omega)]
        exact Ev.now _
      · refine Ev.step (fun k => by rw [laws_szFlowS.l0]) ?_
        simp only [Pl.ev_ite, rd_lFlow l i hi, d, Option.bind_some, if_neg (show ¬ r < 0 by omega), Pl.wrap_nat (show i < 9223372036854775807 by omega)]
        rw [if_pos (by omega), if_pos (by omega)]
        exact hR) (x - (l.length : Int)) (by omega) (by omega)
    exact ⟨r, a, by omega, fun hr => ⟨by omega, c hr⟩, d⟩
def bGraph (a : S56) : Prop := (a.f0.length ≤ 1048576 ∧ ∀ y ∈ a.f0, bGNode y) ∧ a.f1.length ≤ 1048576 ∧ ∀ y ∈ a.f1, bFlow y
theorem szGraph_ev (a : S56) (hw : wf56 a) (x : Int) (h0 : 0 ≤ x) (h1 : x ≤ 1048576) : ∃ r, -1 ≤ r ∧ r ≤ x ∧ (0 ≤ r → bGraph a) ∧ Ev (fun k => laws_szGraph.f k a.f0 a.f1 x) r := by
  unfold laws_szGraph.f
  obtain ⟨w0, w1⟩ := hw
  obtain ⟨r, p, q, c, d⟩ := szGNodeS_ev a.f0 w0.1 w0.2 x h0 h1
  by_cases hr : r < 0
  · exact ⟨-1, by omega, by omega, by omega, Pl.ev_bind' d (by simp only [if_pos hr]; exact Ev.now _)⟩
  · obtain ⟨r', p', q', c', d'⟩ := szFlowS_ev a.f1 w1.1 w1.2 r (by omega) (by omega)
    by_cases hr' : r' < 0
    · exact ⟨-1, by omega, by omega, by omega, Pl.ev_bind' d (by simp only [if_neg hr]; exact Pl.ev_bind' d' (by simp only [if_pos hr']; exact Ev.now _))⟩
    · exact ⟨r', p', by omega, fun _ => ⟨c (by omega), c' (by omega)⟩, Pl.ev_bind' d (by simp only [if_neg hr]; exact Pl.ev_bind' d' (by simp only [if_neg hr']; exact Ev.now _))⟩
theorem toGNodeS_ev (l : List S142) (hl : l.length ≤ 1048576) (hb : ∀ y ∈ l, bGNode y) : Ev (fun k => laws_toGNodeS.f k l) (l.map toGNode) := by
  unfold laws_toGNodeS.f
  simp only [Pl.ev_ite]
  rw [if_pos (by omega), if_pos (by simp; omega)]
  rw [show ((l.length : Int) : Int).toNat = l.length from by omega]
  refine Pl.fill (g := fun k i acc => laws_toGNodeS.l0 k l acc i) (fun acc _ => ?_) (fun i hi acc ha ih => ?_)
  · refine Ev.step (fun k => by rw [laws_toGNodeS.l0]) ?_
    simp [Pl.ev_some]
  · refine Ev.step (fun k => by rw [laws_toGNodeS.l0]) ?_
    simp only [Pl.ev_ite, Pl.ev_some, Pl.ev_none, rd_lGNode l i hi, Pl.wrap_nat (show i < 9223372036854775807 by omega), Int.toNat_natCast]
    rw [if_pos (by omega), if_pos (by omega)]
    obtain ⟨b1, b2⟩ := hb _ (List.getElem_mem hi)
    refine Pl.ev_bind' (a := (l[i].f0, l[i].f1, l[i].f2, l[i].f3, l[i].f4.map toNode)) (Pl.ev_bind' (toNodeS_ev l[i].f4 b2) (Ev.now _)) ?_
    simp only [Pl.ev_ite]
    rw [if_pos (by omega)]
    exact ih
theorem toFlowS_ev (l : List S145) (hl : l.length ≤ 1048576) (hb : ∀ y ∈ l, bFlow y) : Ev (fun k => laws_toFlowS.f k l) (l.map toFlow) := by
  unfold laws_toFlowS.f
  simp only [Pl.ev_ite]
  rw [if_pos (by omega), if_pos (by simp; omega)]
  rw [show ((l.length : Int) : Int).toNat = l.length from by omega]
  refine Pl.fill (g := fun k i acc => laws_toFlowS.l0 k l acc i) (fun acc _ => ?_) (fun i hi acc ha ih => ?_)
  · refine Ev.step (fun k => by rw [laws_toFlowS.l0]) ?_
    simp [Pl.ev_some]
  · refine Ev.step (fun k => by rw [laws_toFlowS.l0]) ?_
    simp only [Pl.ev_ite, Pl.ev_some, Pl.ev_none, rd_lFlow l i hi, Pl.wrap_nat (show i < 9223372036854775807 by omega), Int.toNat_natCast]
    rw [if_pos (by omega), if_pos (by omega)]
    have b2 := hb _ (List.getElem_mem hi)
    refine Pl.ev_bind' (a := (l[i].f0, l[i].f1, l[i].f2.map toNode)) (Pl.ev_bind' (toNodeS_ev l[i].f2 b2) (Ev.now _)) ?_
    simp only [Pl.ev_ite]
    rw [if_pos (by omega)]
    exact ih
theorem toGraph_ev (a : S56) (hb : bGraph a) : Ev (fun k => laws_toGraph.f k a.f0 a.f1) (a.f0.map toGNode, a.f1.map toFlow) := by
  unfold laws_toGraph.f
  obtain ⟨⟨h1, h2⟩, h3, h4⟩ := hb
  exact Pl.ev_bind' (toGNodeS_ev _ h1 h2) (Pl.ev_bind' (toFlowS_ev _ h3 h4) (Ev.now _))
/-- Bounds of a copied graph. -/
def cG (g : List S115) : Prop := g.length ≤ 1048576 ∧ ∀ y ∈ g, y.f2.size ≤ 1048576 ∧ y.f4.length ≤ 1048576
def cF (f : List S119) : Prop := f.length ≤ 1048576 ∧ ∀ y ∈ f, y.f2.length ≤ 1048576
theorem cG_to (a : S56) (hb : bGraph a) : cG (a.f0.map toGNode) := by
  refine ⟨by simpa using hb.1.1, fun y hy => ?_⟩
  obtain ⟨x, hx, rfl⟩ := List.mem_map.1 hy
  have := hb.1.2 x hx
  exact ⟨this.1, by simpa [toGNode] using this.2⟩
theorem cF_to (a : S56) (hb : bGraph a) : cF (a.f1.map toFlow) := by
  refine ⟨by simpa using hb.2.1, fun y hy => ?_⟩
  obtain ⟨x, hx, rfl⟩ := List.mem_map.1 hy
  have : x.f2.length ≤ 1048576 := hb.2.2 x hx
  simpa [toFlow] using this
theorem eqGNodeS_ev (l : List S115) (hc : cG l) : Ev (fun k => laws_eqGNodeS.f k l l) true := by
  obtain ⟨hl, hb⟩ := hc
  unfold laws_eqGNodeS.f
  simp only [if_true]
  refine Pl.loop0 (n := l.length) (g := fun k i => laws_eqGNodeS.l0 k l l i) (F := fun _ => true) ?_ (fun i hi ih => ?_) 0 (Nat.zero_le _)
  · refine Ev.step (fun k => by rw [laws_eqGNodeS.l0]) ?_
    simp [Pl.ev_some]
  · refine Ev.step (fun k => by rw [laws_eqGNodeS.l0]) ?_
    simp only [Pl.ev_ite, Pl.ev_some, Pl.ev_none, laws_eqGNode.f, if_true, rd_iGNode l i hi, Pl.wrap_nat (show i < 9223372036854775807 by omega)]
    rw [if_pos (by omega), if_pos (by omega), if_pos (by omega)]
    have b := (hb _ (List.getElem_mem hi)).2
    refine Pl.ev_bind' (a := true) (Pl.ev_bind' (eqNodeS_ev l[i].f4 b) (by simp [Pl.ev_some])) ?_
    simp only [if_true]
    exact ih
theorem eqFlowS_ev (l : List S119) (hc : cF l) : Ev (fun k => laws_eqFlowS.f k l l) true := by
  obtain ⟨hl, hb⟩ := hc
  unfold laws_eqFlowS.f
  simp only [if_true]
  refine Pl.loop0 (n := l.length) (g := fun k i => laws_eqFlowS.l0 k l l i) (F := fun _ => true) ?_ (fun i hi ih => ?_) 0 (Nat.zero_le _)
  · refine Ev.step (fun k => by rw [laws_eqFlowS.l0]) ?_
    simp [Pl.ev_some]
  · refine Ev.step (fun k => by rw [laws_eqFlowS.l0]) ?_
    simp only [Pl.ev_ite, Pl.ev_some, Pl.ev_none, laws_eqFlow.f, if_true, rd_iFlow l i hi, Pl.wrap_nat (show i < 9223372036854775807 by omega)]
    rw [if_pos (by omega), if_pos (by omega), if_pos (by omega)]
    have b := hb _ (List.getElem_mem hi)
    refine Pl.ev_bind' (a := true) (Pl.ev_bind' (eqNodeS_ev l[i].f2 b) (by simp [Pl.ev_some])) ?_
    simp only [if_true]
    exact ih
theorem eqGraph_ev (g : List S115) (f : List S119) (hg : cG g) (hf : cF f) : Ev (fun k => laws_eqGraph.f k g f g f) true := by
  unfold laws_eqGraph.f
  refine Pl.ev_bind' (eqGNodeS_ev g hg) ?_
  simp only [if_true]
  exact Pl.ev_bind' (eqFlowS_ev f hf) (by simp only [if_true]; exact Ev.now _)
end Go.Proofs.Ytjlcajhlggoleaa.H
