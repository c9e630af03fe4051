/- What the laws' own sizes, copies and comparisons of attrs and elements come to. No condition. -/
import Derived.Test.YtbjakfnfjndccaaXPure
import Derived.Test.YtbjakfnfjndccaaT1
import Derived.Test.YtbjakfnfjndccaaT2
import Derived.Test.YtbjakfnfjndccaaT7
import Derived.Test.YtbjakfnfjndccaaTO
namespace Go.Proofs.Ytbjakfnfjndccaa.T
set_option linter.unusedVariables false
set_option linter.unusedSimpArgs false
open Go.RowKit Go.Proofs.Ytbjakfnfjndccaa Go.Proofs.YtbjakfnfjndccaaW.PrintWords Go.Proofs.YtbjakfnfjndccaaW.PrintLast
theorem rd_lAttr (l : List S84) (i : Nat) (h : i < l.length) : rd_T84 l (i : Int) = l[i] := Pl.getD_get h
theorem rd_iAttr (l : List S78) (i : Nat) (h : i < l.length) : rd_T78 l (i : Int) = l[i] := Pl.getD_get h
theorem rd_lElem (l : List S45) (i : Nat) (h : i < l.length) : rd_T45 l (i : Int) = l[i] := Pl.getD_get h
theorem rd_iElem (l : List S48) (i : Nat) (h : i < l.length) : rd_T48 l (i : Int) = l[i] := Pl.getD_get h
/-- An attr, an element, copied. -/
def toAttr (x : S84) : S78 := ⟨x.f0, x.f1⟩
def toElem (x : S45) : S48 := ⟨x.f0, x.f1, x.f2.map toAttr⟩
def bAttr (x : S84) : Prop := x.f0.size ≤ 1048576 ∧ x.f1.size ≤ 1048576
def bElem (x : S45) : Prop := x.f0.size ≤ 1048576 ∧ x.f2.length ≤ 1048576 ∧ ∀ y ∈ x.f2, bAttr y
theorem szAttr_ev (a : S84) (hw : wf84 a) (x : Int) (h0 : 0 ≤ x) (h1 : x ≤ 1048576) : ∃ r, -1 ≤ r ∧ r ≤ x ∧ (0 ≤ r → bAttr a) ∧ laws_szAttr.f a.f0 a.f1 x = some r := by
  obtain ⟨w0, w1⟩ := hw
  have e : wrap64 (x - (a.f0.size : Int)) = x - (a.f0.size : Int) := Pl.wrap_in (by omega) (by omega)
  unfold laws_szAttr.f
  rw [e]
  by_cases h : x - (a.f0.size : Int) < 0
  · rw [if_pos h]
    exact ⟨-1, by omega, by omega, by omega, rfl⟩
  · rw [if_neg h]
    have e2 : wrap64 (x - (a.f0.size : Int) - (a.f1.size : Int)) = x - (a.f0.size : Int) - (a.f1.size : Int) := Pl.wrap_in (by omega) (by omega)
    rw [e2]
    by_cases h2 : x - (a.f0.size : Int) - (a.f1.size : Int) < 0
    · rw [if_pos h2]
      exact ⟨-1, by omega, by omega, by omega, rfl⟩
    · rw [if_neg h2]
      exact ⟨_, by omega, by omega, fun _ => ⟨by omega, by omega⟩, rfl⟩
theorem szAttrS_ev (l : List S84) (hl : l.length ≤ 9223372036854775807) (hw : ∀ y ∈ l, wf84 y) (x : Int) (h0 : 0 ≤ x) (h1 : x ≤ 1048576) : ∃ r, -1 ≤ r ∧ r ≤ x ∧ (0 ≤ r → l.length ≤ 1048576 ∧ ∀ y ∈ l, bAttr y) ∧ Ev (fun k => laws_szAttrS.f k l x) r := by
  have e : wrap64 (x - (l.length : Int)) = x - (l.length : Int) := Pl.wrap_in (by omega) (by omega)
  unfold laws_szAttrS.f
  rw [e]
  by_cases h : x - (l.length : Int) < 0
  · simp only [if_pos h]
    exact ⟨-1, by omega, by omega, by omega, Ev.now _⟩
  · simp only [if_neg h]
    obtain ⟨r, a, b, c, d⟩ := Pl.left (l := l) (B := bAttr) (g := fun k i x => laws_szAttrS.l0 k l x i) (fun x => by
      refine Ev.step (fun k => by rw [laws_szAttrS.l0]) ?_
      simp [Pl.ev_some]) (fun i hi x h0 h1 => by
      obtain ⟨r, a, b, c, d⟩ := szAttr_ev l[i] (hw _ (List.getElem_mem hi)) x h0 h1
      refine ⟨r, a, b, c, fun hr => ?_, fun hr R hR => ?_⟩
      · refine Ev.step (fun k => by rw [laws_szAttrS.l0]) ?_
        simp only [Pl.ev_ite, rd_lAttr l i hi, d, Option.bind_some, if_pos hr]
        rw [if_pos (by omega), if_pos (by omega)]
        exact Ev.now _
      · refine Ev.step (fun k => by rw [laws_szAttrS.l0]) ?_
        simp only [Pl.ev_ite, rd_lAttr l i hi, d, Option.bind_some, if_neg (show ¬ r < 0 by omega), Pl.wrap_nat (show i < 9223372036854775807 by omega)]
        rw [if_pos (by omega), if_pos (by omega)]
        exact hR) (x - (l.length : Int)) (by omega) (by omega)
    exact ⟨r, a, by omega, fun hr => ⟨by omega, c hr⟩, d⟩
theorem szElem_ev (a : S45) (hw : wf45 a) (x : Int) (h0 : 0 ≤ x) (h1 : x ≤ 1048576) : ∃ r, -1 ≤ r ∧ r ≤ x ∧ (0 ≤ r → bElem a) ∧ Ev (fun k => laws_szElem.f k a.f0 a.f1 a.f2 x) r := by
  obtain ⟨w0, w1, w2, w3⟩ := hw
  have e : wrap64 (x - (a.f0.size : Int)) = x - (a.f0.size : Int) := Pl.wrap_in (by omega) (by omega)
  unfold laws_szElem.f
  rw [e]
  by_cases h : x - (a.f0.size : Int) < 0
  · simp only [if_pos h]
    exact ⟨-1, by omega, by omega, by omega, Ev.now _⟩
  · simp only [if_neg h]
    obtain ⟨r, p, q, c, d⟩ := szAttrS_ev a.f2 w2 w3 (x - (a.f0.size : Int)) (by omega) (by omega)
    by_cases hr : r < 0
    · exact ⟨-1, by omega, by omega, by omega, Pl.ev_bind' d (by rw [if_pos hr]; exact Ev.now _)⟩
    · exact ⟨r, p, by omega, fun _ => ⟨by omega, (c (by omega)).1, (c (by omega)).2⟩, Pl.ev_bind' d (by rw [if_neg hr]; exact Ev.now _)⟩
theorem szElemS_ev (l : List S45) (hl : l.length ≤ 9223372036854775807) (hw : ∀ y ∈ l, wf45 y) (x : Int) (h0 : 0 ≤ x) (h1 : x ≤ 1048576) : ∃ r, -1 ≤ r ∧ r ≤ x ∧ (0 ≤ r → l.length ≤ 1048576 ∧ ∀ y ∈ l, bElem y) ∧ Ev (fun k => laws_szElemS.f k l x) r := by
  have e : wrap64 (x - (l.length : Int)) = x - (l.length : Int) := Pl.wrap_in (by omega) (by omega)
  unfold laws_szElemS.f
  rw [e]
  by_cases h : x - (l.length : Int) < 0
  · simp only [if_pos h]
    exact ⟨-1, by omega, by omega, by omega, Ev.now _⟩
  · simp only [if_neg h]
    obtain ⟨r, a, b, c, d⟩ := Pl.left (l := l) (B := bElem) (g := fun k i x => laws_szElemS.l0 k l x i) (fun x => by
      refine Ev.step (fun k => by rw [laws_szElemS.l0]) ?_
      simp [Pl.ev_some]) (fun i hi x h0 h1 => by
      obtain ⟨r, a, b, c, d⟩ := szElem_ev l[i] (hw _ (List.getElem_mem hi)) x h0 h1
      refine ⟨r, a, b, c, fun hr => ?_, fun hr R hR => ?_⟩
      · refine Ev.step (fun k => by rw [laws_szElemS.l0]) ?_
        simp only [Pl.ev_ite, rd_lElem l i hi]
        rw [if_pos (by omega), if_pos (by omega)]
        exact Pl.ev_bind' d (by simp only [if_pos hr]; exact Ev.now _)
      · refine Ev.step (fun k => by rw [laws_szElemS.l0]) ?_
        simp only [Pl.ev_ite, rd_lElem l i hi, Pl.wrap_nat (show i < 9223372036854775807 by omega)]
        rw [if_pos (by omega), if_pos (by omega)]
        exact Pl.ev_bind' d (by simp only [if_neg (show ¬ r < 0 by omega)]; exact hR)) (x - (l.length : Int)) (by omega) (by omega)
    exact ⟨r, a, by omega, fun hr => ⟨by omega, c hr⟩, d⟩
theorem toAttrS_ev (l : List S84) (hl : l.length ≤ 1048576) : Ev (fun k => laws_toAttrS.f k l) (l.map toAttr) := by
  unfold laws_toAttrS.f
  simp only [Pl.ev_ite]
  rw [if_pos (by omega), if_pos (by simp; omega)]
  rw [show ((l.length : Int) : Int).toNat = l.length from by omega]
  refine Pl.fill (g := fun k i acc => laws_toAttrS.l0 k l acc i) (fun acc _ => ?_) (fun i hi acc ha ih => ?_)
  · refine Ev.step (fun k => by rw [laws_toAttrS.l0]) ?_
    simp [Pl.ev_some]
  · refine Ev.step (fun k => by rw [laws_toAttrS.l0]) ?_
    simp only [Pl.ev_ite, Pl.ev_some, Pl.ev_none, laws_toAttr.f, Option.bind_some, rd_lAttr l i hi, Pl.wrap_nat (show i < 9223372036854775807 by omega), Int.toNat_natCast]
    rw [if_pos (by omega), if_pos (by omega), if_pos (by omega)]
    exact ih
theorem toElemS_ev (l : List S45) (hl : l.length ≤ 1048576) (hb : ∀ y ∈ l, bElem y) : Ev (fun k => laws_toElemS.f k l) (l.map toElem) := by
  unfold laws_toElemS.f
  simp only [Pl.ev_ite]
  rw [if_pos (by omega), if_pos (by simp; omega)]
  rw [show ((l.length : Int) : Int).toNat = l.length from by omega]
  refine Pl.fill (g := fun k i acc => laws_toElemS.l0 k l acc i) (fun acc _ => ?_) (fun i hi acc ha ih => ?_)
  · refine Ev.step (fun k => by rw [laws_toElemS.l0]) ?_
    simp [Pl.ev_some]
  · refine Ev.step (fun k => by rw [laws_toElemS.l0]) ?_
    simp only [Pl.ev_ite, Pl.ev_some, Pl.ev_none, rd_lElem l i hi, Pl.wrap_nat (show i < 9223372036854775807 by omega), Int.toNat_natCast]
    rw [if_pos (by omega), if_pos (by omega)]
    refine Pl.ev_bind' (a := (l[i].f0, l[i].f1, l[i].f2.map toAttr)) (Pl.ev_bind' (toAttrS_ev l[i].f2 (hb _ (List.getElem_mem hi)).2.1) (Ev.now _)) ?_
    simp only [Pl.ev_ite]
    rw [if_pos (by omega)]
    exact ih
theorem eqAttrS_ev (l : List S78) (hl : l.length ≤ 1048576) : Ev (fun k => laws_eqAttrS.f k l l) true := by
  unfold laws_eqAttrS.f
  simp only [if_true]
  refine Pl.loop0 (n := l.length) (g := fun k i => laws_eqAttrS.l0 k l l i) (F := fun _ => true) ?_ (fun i hi ih => ?_) 0 (Nat.zero_le _)
  · refine Ev.step (fun k => by rw [laws_eqAttrS.l0]) ?_
    simp [Pl.ev_some]
  · refine Ev.step (fun k => by rw [laws_eqAttrS.l0]) ?_
    simp only [Pl.ev_ite, Pl.ev_some, Pl.ev_none, laws_eqAttr.f, if_true, Option.bind_some, Pl.wrap_nat (show i < 9223372036854775807 by omega)]
    rw [if_pos (by omega), if_pos (by omega), if_pos (by omega)]
    exact ih
theorem eqElemS_ev (l : List S48) (hl : l.length ≤ 1048576) (hb : ∀ y ∈ l, y.f2.length ≤ 1048576) : Ev (fun k => laws_eqElemS.f k l l) true := by
  unfold laws_eqElemS.f
  simp only [if_true]
  refine Pl.loop0 (n := l.length) (g := fun k i => laws_eqElemS.l0 k l l i) (F := fun _ => true) ?_ (fun i hi ih => ?_) 0 (Nat.zero_le _)
  · refine Ev.step (fun k => by rw [laws_eqElemS.l0]) ?_
    simp [Pl.ev_some]
  · refine Ev.step (fun k => by rw [laws_eqElemS.l0]) ?_
    simp only [Pl.ev_ite, Pl.ev_some, Pl.ev_none, laws_eqElem.f, if_true, rd_iElem l i hi, Pl.wrap_nat (show i < 9223372036854775807 by omega)]
    rw [if_pos (by omega), if_pos (by omega), if_pos (by omega)]
    refine Pl.ev_bind' (a := true) (Pl.ev_bind' (eqAttrS_ev l[i].f2 (hb _ (List.getElem_mem hi))) (by simp [Pl.ev_some])) ?_
    simp only [if_true]
    exact ih
end Go.Proofs.Ytbjakfnfjndccaa.T
