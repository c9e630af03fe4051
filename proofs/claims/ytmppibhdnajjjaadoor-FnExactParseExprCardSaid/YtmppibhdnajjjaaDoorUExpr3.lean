/- Whether a list of nodes is an expression: what the program says. No condition. -/
import Derived.Test.YtmppibhdnajjjaaDoorUExpr2
namespace Go.Proofs.YtmppibhdnajjjaaDoor.P
set_option linter.unusedVariables false
set_option linter.unusedSimpArgs false
open Go.RowKit Go.Proofs.YtmppibhdnajjjaaDoor Go.Proofs.YtmppibhdnajjjaaDoorW.PrintWords Go.Proofs.YtmppibhdnajjjaaDoorW.PrintLast
/-- The sizes below the first nodes. -/
def sizesC (e : List Nd) (i : Nat) : List Int := (List.range i).map fun j => ((Pl.sz (kK e) (kL e) (kR e) j : Nat) : Int)
theorem sizesC_len (e : List Nd) (i : Nat) : (sizesC e i).length = i := by simp [sizesC]
theorem sizesC_rd (e : List Nd) (i j : Nat) (h : j < i) : rd (sizesC e i) (j : Int) = ((Pl.sz (kK e) (kL e) (kR e) j : Nat) : Int) := by
  rw [Pl.rd_get _ j (by rw [sizesC_len]; exact h)]
  simp [sizesC]
theorem sizesC_succ (e : List Nd) (i : Nat) : sizesC e i ++ [((Pl.sz (kK e) (kL e) (kR e) i : Nat) : Int)] = sizesC e (i + 1) := by simp [sizesC, List.range_succ]
def badC (e : List Nd) (i : Nat) : Prop := ∃ j, j < i ∧ ¬ Pl.ok (kK e) (kL e) (kR e) j
theorem badC_succ (e : List Nd) (i : Nat) : badC e (i + 1) ↔ badC e i ∨ ¬ Pl.ok (kK e) (kL e) (kR e) i := by
  constructor
  · rintro ⟨j, h, hj⟩
    by_cases hji : j = i
    · subst hji; exact .inr hj
    · exact .inl ⟨j, by omega, hj⟩
  · rintro (⟨j, h, hj⟩ | hj)
    · exact ⟨j, by omega, hj⟩
    · exact ⟨i, by omega, hj⟩
theorem implShape_ev (e : List Nd) (h1 : 1 ≤ e.length) (hl : e.length ≤ 16) (hf : fineN e) : Ev (fun k => impl_ExprFault.l1 k e ([] : List Int) false e (e.length : Int) 0) (shapeC e) := by
  have ha := fineN_ahead hf
  have hsz : ∀ j, j < e.length → Pl.sz (kK e) (kL e) (kR e) j ≤ 131072 := fun j hj => by
    have h1 := Pl.sz_le ha j hj
    have h2 : 2 ^ (j + 1) ≤ 2 ^ 16 := Nat.pow_le_pow_right (by omega) (by omega)
    omega
  have main := Pl.loop (σ := List Int × Bool) (n := e.length) (g := fun k i s => impl_ExprFault.l1 k e s.1 s.2 e (e.length : Int) i) (F := fun _ _ => shapeC e)
    (fun i s => s.1 = sizesC e i ∧ (s.2 = true ↔ badC e i)) ?_ ?_ 0 ([], false) (Nat.zero_le _) ⟨rfl, by simp [badC]⟩
  · simpa using main
  · rintro ⟨S, w⟩ ⟨hS, hw⟩
    simp only at hS hw
    subst hS
    have ew : wrap64 ((e.length : Int) - 1) = ((e.length - 1 : Nat) : Int) := by rw [Pl.wrap_in (by omega) (by omega)]; omega
    refine Ev.step (fun k => by rw [impl_ExprFault.l1]) ?_
    simp only [Pl.ev_ite, Pl.ev_none, codeIf_eq, Option.bind_some, ew, sizesC_len, sizesC_rd e e.length (e.length - 1) (by omega)]
    rw [if_neg (by omega)]
    by_cases hb : badC e e.length
    · rw [if_pos (hw.2 hb)]
      refine Pl.ev_some.2 ?_
      have e1 : shapeC e = 1 := by
        unfold shapeC
        exact if_neg (fun h => by obtain ⟨j, hj, hj'⟩ := hb; exact hj' (h.1 j hj))
      rw [e1]; rfl
    · rw [if_neg (fun h => hb (hw.1 h)), if_pos (by omega), if_pos (by omega)]
      refine Pl.ev_some.2 ?_
      have hall : ∀ j, j < e.length → Pl.ok (kK e) (kL e) (kR e) j := fun j hj => Classical.byContradiction fun h => hb ⟨j, hj, h⟩
      by_cases hs : Pl.sz (kK e) (kL e) (kR e) (e.length - 1) = e.length
      · have e1 : shapeC e = 0 := by
          unfold shapeC
          exact if_pos ⟨hall, hs⟩
        rw [e1, hs]; simp
      · have e1 : shapeC e = 1 := by
          unfold shapeC
          exact if_neg (fun h => hs h.2)
        have : ((Pl.sz (kK e) (kL e) (kR e) (e.length - 1) : Nat) : Int) ≠ (e.length : Int) := by omega
        rw [e1]; simp [this]
  · rintro i ⟨S, w⟩ hi ⟨hS, hw⟩ ih
    simp only at hS hw
    subst hS
    have h0 := nodeC_0 (hf i hi)
    obtain ⟨a1, a2⟩ := ha i hi
    have es := Pl.sz_eq ha hi
    have next : ∀ (v : Int) (w' : Bool), v = ((Pl.sz (kK e) (kL e) (kR e) i : Nat) : Int) → (w' = true ↔ badC e (i + 1)) → Ev (fun k => impl_ExprFault.l1 k e (sizesC e i ++ [v]) w' e (e.length : Int) ((i : Int) + 1)) (shapeC e) := by
      intro v w' hv hw'
      have := ih (sizesC e i ++ [v], w') ⟨by rw [hv]; exact sizesC_succ e i, hw'⟩
      simpa using this
    have eK := kK_at e i hi
    have eL : 2 < kK e i → e[i].f2 = ((kL e i : Nat) : Int) := fun h => by
      rw [kL_at e i hi]; rw [eK] at h; have := h0.2.1 h; omega
    have eR : Pl.two (kK e i) = true → e[i].f3 = ((kR e i : Nat) : Int) := fun h => by
      rw [kR_at e i hi]; rw [eK] at h; have := h0.2.2.1 (of_decide_eq_true h); omega
    have ew : wrap64 ((i : Int) - 1) = (i : Int) - 1 := Pl.wrap_in (by omega) (by omega)
    refine Ev.step (fun k => by rw [impl_ExprFault.l1]) ?_
    simp only [Pl.ev_ite, Pl.ev_none, rd_iNode e i hi, ← eK, isTwo_eq, Option.bind_some, sizesC_len, ew, Pl.wrap_nat (show i < 9223372036854775807 by omega)]
    rw [if_pos (by omega), if_pos (by omega), if_pos (by omega)]
    have lim : (i : Nat) < 17592186044416 := by omega
    simp only [lim, if_true]
    by_cases hN : kK e i = 10
    · have hT : ¬ Pl.two (kK e i) = true := fun h => by have := of_decide_eq_true h; omega
      have hI : 2 < kK e i := by omega
      have hL := a1 hI
      have := hsz (kL e i) (by omega)
      rw [if_pos hN, eL hI]
      rw [if_pos hI, if_neg hT] at es
      have r1 := sizesC_rd e i (kL e i) hL
      rw [r1, Pl.wrap_in (by omega) (by omega)]
      have ok_iff : Pl.ok (kK e) (kL e) (kR e) i ↔ kL e i + 1 = i := by
        unfold Pl.ok
        exact ⟨fun h => h.1 hN, fun h => ⟨fun _ => h, fun h' => absurd h' hT⟩⟩
      by_cases hwt : w = true
      · rw [if_pos hwt, if_pos (by omega), if_pos (by omega)]
        exact next _ _ (by omega) (by rw [badC_succ]; simp [hw.1 hwt])
      · rw [if_neg hwt, if_pos (by omega), if_pos (by omega)]
        refine next _ _ (by omega) ?_
        have hb : ¬ badC e i := fun h => hwt (hw.2 h)
        rw [badC_succ, ok_iff, bne_iff_ne]
        simp only [hb, false_or]
        omega
    · rw [if_neg hN]
      by_cases hT : Pl.two (kK e i) = true
      · have hI := Pl.two_inner hT
        have hL := a1 hI
        have hR := a2 hT
        have := hsz (kL e i) (by omega)
        have := hsz (kR e i) (by omega)
        rw [if_pos hT, eL hI, eR hT]
        rw [if_pos hI, if_pos hT] at es
        have r1 := sizesC_rd e i (kL e i) hL
        have r2 := sizesC_rd e i (kR e i) hR
        rw [r1, r2, Pl.wrap_in (x := ((Pl.sz (kK e) (kL e) (kR e) (kL e i) : Nat) : Int) + ((Pl.sz (kK e) (kL e) (kR e) (kR e i) : Nat) : Int)) (by omega) (by omega), Pl.wrap_in (x := 1 + (((Pl.sz (kK e) (kL e) (kR e) (kL e i) : Nat) : Int) + ((Pl.sz (kK e) (kL e) (kR e) (kR e i) : Nat) : Int))) (by omega) (by omega), Pl.wrap_in (x := (i : Int) - 1 - ((Pl.sz (kK e) (kL e) (kR e) (kR e i) : Nat) : Int)) (by omega) (by omega)]
        have ok_iff : Pl.ok (kK e) (kL e) (kR e) i ↔ kR e i + 1 = i ∧ kL e i + 1 + Pl.sz (kK e) (kL e) (kR e) (kR e i) = i := by
          unfold Pl.ok
          exact ⟨fun h => h.2 hT, fun h => ⟨fun h' => absurd h' hN, fun _ => h⟩⟩
        by_cases hwt : w = true
        · rw [if_pos hwt, if_pos (by omega), if_pos (by omega), if_pos (by omega), if_pos (by omega)]
          exact next _ _ (by omega) (by rw [badC_succ]; simp [hw.1 hwt])
        · have hb : ¬ badC e i := fun h => hwt (hw.2 h)
          rw [if_neg hwt]
          by_cases hRi : ((kR e i : Nat) : Int) = (i : Int) - 1
          · rw [if_pos hRi, if_pos (by omega), if_pos (by omega), if_pos (by omega), if_pos (by omega)]
            refine next _ _ (by omega) ?_
            rw [badC_succ, ok_iff, bne_iff_ne]
            simp only [hb, false_or]
            omega
          · rw [if_neg hRi, if_pos (by omega), if_pos (by omega), if_pos (by omega), if_pos (by omega)]
            refine next _ _ (by omega) ?_
            rw [badC_succ, ok_iff]
            simp only [hb, false_or, true_iff]
            omega
      · rw [if_neg hT]
        have hI : ¬ 2 < kK e i := fun h => by
          have := fineN_le hf i hi
          exact hT (decide_eq_true (by omega))
        rw [if_neg hI, if_neg hT] at es
        refine next _ _ (by omega) ?_
        rw [badC_succ, hw]
        have : Pl.ok (kK e) (kL e) (kR e) i := ⟨fun h => absurd h hN, fun h => absurd h hT⟩
        simp [this]
theorem implExpr_ev (e : List Nd) : Ev (fun k => impl_ExprFault.f k e) (exprC e) := by
  unfold impl_ExprFault.f
  simp only [inRange_eq, Option.bind_some, Pl.ev_ite, Pl.ev_some, decide_eq_true_eq]
  unfold exprC
  by_cases h : 1 ≤ e.length ∧ e.length ≤ 16
  · rw [if_pos (by omega), if_pos h]
    have := Pl.loop (σ := Unit) (n := e.length) (g := fun k i _ => impl_ExprFault.l0 k e e (e.length : Int) i) (F := fun i _ => if nodesC i (e.drop i) = 0 then shapeC e else nodesC i (e.drop i)) (fun i _ => ∀ j (hj : j < e.length), j < i → ndC e[j] j = 0) (fun _ hI => ?_) (fun i _ hi hI ih => ?_) 0 () (Nat.zero_le _) (fun j _ h => by omega)
    · simpa using this
    · refine Ev.step (fun k => by rw [impl_ExprFault.l0]) ?_
      simp only [Pl.ev_ite]
      rw [if_neg (by omega), List.drop_length]
      simp only [nodesC, if_true]
      exact implShape_ev e h.1 h.2 (fun i hi => hI i hi hi)
    · refine Ev.step (fun k => by rw [impl_ExprFault.l0]) ?_
      simp only [Pl.ev_ite, Pl.ev_none, rd_iNode e i hi, Pl.wrap_nat (show i < 9223372036854775807 by omega)]
      rw [if_pos (by omega), if_pos (by omega), if_pos (by omega)]
      refine Pl.ev_bind' (implNode_ev e[i].f0 e[i].f1 e[i].f2 e[i].f3 (i : Int) (by omega) (by omega)) ?_
      rw [Pl.drop_get hi]
      unfold nodesC
      simp only [Pl.ev_ite]
      have en : ndC e[i] i = nodeC e[i].f0 e[i].f1 e[i].f2 e[i].f3 (i : Int) := rfl
      rw [← en]
      by_cases hn : ndC e[i] i = 0
      · simp only [hn, if_true]
        exact ih () (fun j hj hji => by
          by_cases hji' : j = i
          · subst hji'; exact hn
          · exact hI j hj (by omega))
      · simp only [if_neg hn]
        exact Ev.now _
  · rw [if_neg (by omega), if_neg h]
end Go.Proofs.YtmppibhdnajjjaaDoor.P
