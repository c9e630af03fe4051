/- What the laws' own sizes, copies and comparisons of steps come to. No condition. -/
import Derived.Test.YtjlcajhlggoleaaUNode
import Derived.Test.YtjlcajhlggoleaaQ17
import Derived.Test.YtjlcajhlggoleaaQ18
import Derived.Test.YtjlcajhlggoleaaQ20
namespace Go.Proofs.Ytjlcajhlggoleaa.Q
set_option linter.unusedVariables false
set_option linter.unusedSimpArgs false
open Go.RowKit Go.Proofs.Ytjlcajhlggoleaa Go.Proofs.YtjlcajhlggoleaaW.PrintWords Go.Proofs.YtjlcajhlggoleaaW.PrintLast
theorem rd_lStep (l : List S97) (i : Nat) (h : i < l.length) : rd_T97 l (i : Int) = l[i] := Pl.getD_get h
theorem rd_iStep (l : List S100) (i : Nat) (h : i < l.length) : rd_T100 l (i : Int) = l[i] := Pl.getD_get h
/-- A step, copied. -/
def toStep (x : S97) : S100 := ⟨x.f0, x.f1, x.f2, x.f3, x.f4.map toNode, x.f5.map toNode⟩
def bStep (x : S97) : Prop := x.f2.size ≤ 1048576 ∧ x.f4.length ≤ 1048576 ∧ x.f5.length ≤ 1048576
theorem szStep_ev (a : S97) (hw : wf97 a) (x : Int) (h0 : 0 ≤ x) (h1 : x ≤ 1048576) : ∃ r, -1 ≤ r ∧ r ≤ x ∧ (0 ≤ r → bStep a) ∧ laws_szStep.f a.f0 a.f1 a.f2 a.f3 a.f4 a.f5 x = some r := by
  obtain ⟨w0, w1, w2, w3, w4, w5⟩ := hw
  have e : wrap64 (x - (a.f2.size : Int)) = x - (a.f2.size : Int) := Pl.wrap_in (by omega) (by omega)
  unfold laws_szStep.f
  rw [e]
  by_cases h : x - (a.f2.size : Int) < 0
  · rw [if_pos h]
    exact ⟨-1, by omega, by omega, by omega, rfl⟩
  · rw [if_neg h]
    obtain ⟨r, p, q, c, d⟩ := szNodeS_ev a.f4 w4.1 (x - (a.f2.size : Int)) (by omega) (by omega)
    rw [d, Option.bind_some]
    by_cases hr : r < 0
    · rw [if_pos hr]
      exact ⟨-1, by omega, by omega, by omega, rfl⟩
    · rw [if_neg hr]
      obtain ⟨r', p', q', c', d'⟩ := szNodeS_ev a.f5 w5.1 r (by omega) (by omega)
      rw [d', Option.bind_some]
      by_cases hr' : r' < 0
      · rw [if_pos hr']
        exact ⟨-1, by omega, by omega, by omega, rfl⟩
      · rw [if_neg hr']
        exact ⟨r', p', by omega, fun _ => ⟨by omega, c (by omega), c' (by omega)⟩, rfl⟩
theorem szStepS_ev (l : List S97) (hl : l.length ≤ 9223372036854775807) (hw : ∀ y ∈ l, wf97 y) (x : Int) (h0 : 0 ≤ x) (h1 : x ≤ 1048576) : ∃ r, -1 ≤ r ∧ r ≤ x ∧ (0 ≤ r → l.length ≤ 1048576 ∧ ∀ y ∈ l, bStep y) ∧ Ev (fun k => laws_szStepS.f k l x) r := by
  have e : wrap64 (x - (l.length : Int)) = x - (l.length : Int) := Pl.wrap_in (by omega) (by omega)
  unfold laws_szStepS.f
  rw [e]
  by_cases h : x - (l.length : Int) < 0
  · simp only [if_pos h]
    exact ⟨-1, by omega, by omega, by omega, Ev.now _⟩
  · simp only [if_neg h]
    obtain ⟨r, a, b, c, d⟩ := Pl.left (l := l) (B := bStep) (g := fun k i x => laws_szStepS.l0 k l x i) (fun x => by
      refine Ev.step (fun k => by rw [laws_szStepS.l0]) ?_
      simp [Pl.ev_some]) (fun i hi x h0 h1 => by
      obtain ⟨r, a, b, c, d⟩ := szStep_ev l[i] (hw _ (List.getElem_mem hi)) x h0 h1
      refine ⟨r, a, b, c, fun hr => ?_, fun hr R hR => ?_⟩
      · refine Ev.step (fun k => by rw [laws_szStepS.l0]) ?_
        simp only [Pl.ev_ite, rd_lStep l i hi, d, Option.bind_some, if_pos hr]
        rw [if_pos (by omega), if_pos (by omega)]
        exact Ev.now _
      · refine Ev.step (fun k => by rw [laws_szStepS.l0]) ?_
        simp only [Pl.ev_ite, rd_lStep l i hi, d, Option.bind_some, if_neg (show ¬ r < 0 by omega), Pl.wrap_nat (show i < 9223372036854775807 by omega)]
        rw [if_pos (by omega), if_pos (by omega)]
        exact hR) (x - (l.length : Int)) (by omega) (by omega)
    exact ⟨r, a, by omega, fun hr => ⟨by omega, c hr⟩, d⟩
theorem toStepS_ev (l : List S97) (hl : l.length ≤ 1048576) (hb : ∀ y ∈ l, bStep y) : Ev (fun k => laws_toStepS.f k l) (l.map toStep) := by
  unfold laws_toStepS.f
  simp only [Pl.ev_ite]
  rw [if_pos (by omega), if_pos (by simp; omega)]
  rw [show ((l.length : Int) : Int).toNat = l.length from by omega]
  refine Pl.fill (g := fun k i acc => laws_toStepS.l0 k l acc i) (fun acc _ => ?_) (fun i hi acc ha ih => ?_)
  · refine Ev.step (fun k => by rw [laws_toStepS.l0]) ?_
    simp [Pl.ev_some]
  · refine Ev.step (fun k => by rw [laws_toStepS.l0]) ?_
    simp only [Pl.ev_ite, Pl.ev_some, Pl.ev_none, rd_lStep l i hi, Pl.wrap_nat (show i < 9223372036854775807 by omega), Int.toNat_natCast]
    rw [if_pos (by omega), if_pos (by omega)]
    obtain ⟨b1, b2, b3⟩ := hb _ (List.getElem_mem hi)
    refine Pl.ev_bind' (a := (l[i].f0, l[i].f1, l[i].f2, l[i].f3, l[i].f4.map toNode, l[i].f5.map toNode)) (Pl.ev_bind' (toNodeS_ev l[i].f4 b2) (Pl.ev_bind' (toNodeS_ev l[i].f5 b3) (Ev.now _))) ?_
    simp only [Pl.ev_ite]
    rw [if_pos (by omega)]
    exact ih
theorem eqStepS_ev (l : List S100) (hl : l.length ≤ 1048576) (hb : ∀ y ∈ l, y.f4.length ≤ 1048576 ∧ y.f5.length ≤ 1048576) : Ev (fun k => laws_eqStepS.f k l l) true := by
  unfold laws_eqStepS.f
  simp only [if_true]
  refine Pl.loop0 (n := l.length) (g := fun k i => laws_eqStepS.l0 k l l i) (F := fun _ => true) ?_ (fun i hi ih => ?_) 0 (Nat.zero_le _)
  · refine Ev.step (fun k => by rw [laws_eqStepS.l0]) ?_
    simp [Pl.ev_some]
  · refine Ev.step (fun k => by rw [laws_eqStepS.l0]) ?_
    simp only [Pl.ev_ite, Pl.ev_some, Pl.ev_none, laws_eqStep.f, if_true, rd_iStep l i hi, Pl.wrap_nat (show i < 9223372036854775807 by omega)]
    rw [if_pos (by omega), if_pos (by omega), if_pos (by omega)]
    have b := hb _ (List.getElem_mem hi)
    refine Pl.ev_bind' (a := true) (Pl.ev_bind' (eqNodeS_ev l[i].f4 b.1) ?_) ?_
    · simp only [if_true]
      exact Pl.ev_bind' (eqNodeS_ev l[i].f5 b.2) (by simp [Pl.ev_some])
    · simp only [if_true]
      exact ih
end Go.Proofs.Ytjlcajhlggoleaa.Q
