/- Whether a list of nodes is an expression: the program and the reference say the same. No condition. -/
import Derived.Test.YtmppibhdnajjjaaDoorUExpr
namespace Go.Proofs.YtmppibhdnajjjaaDoor.P
set_option linter.unusedVariables false
set_option linter.unusedSimpArgs false
open Go.RowKit Go.Proofs.YtmppibhdnajjjaaDoor Go.Proofs.YtmppibhdnajjjaaDoorW.PrintWords Go.Proofs.YtmppibhdnajjjaaDoorW.PrintLast
abbrev Nd := S45
def kK (e : List Nd) (i : Nat) : Int := (e.getD i z45).f0
def kL (e : List Nd) (i : Nat) : Nat := (e.getD i z45).f2.toNat
def kR (e : List Nd) (i : Nat) : Nat := (e.getD i z45).f3.toNat
theorem kK_at (e : List Nd) (i : Nat) (h : i < e.length) : kK e i = e[i].f0 := by unfold kK; rw [List.getD_eq_getElem?_getD, List.getElem?_eq_getElem h]; rfl
theorem kL_at (e : List Nd) (i : Nat) (h : i < e.length) : kL e i = e[i].f2.toNat := by unfold kL; rw [List.getD_eq_getElem?_getD, List.getElem?_eq_getElem h]; rfl
theorem kR_at (e : List Nd) (i : Nat) (h : i < e.length) : kR e i = e[i].f3.toNat := by unfold kR; rw [List.getD_eq_getElem?_getD, List.getElem?_eq_getElem h]; rfl
def ndC (x : Nd) (i : Nat) : Int := nodeC x.f0 x.f1 x.f2 x.f3 (i : Int)
/-- The first code of nodes from a place on. -/
def nodesC : Nat → List Nd → Int
  | _, [] => 0
  | i, x :: l => if ndC x i = 0 then nodesC (i + 1) l else ndC x i
def fineN (e : List Nd) : Prop := ∀ i (h : i < e.length), ndC e[i] i = 0
theorem nodeC_0 {K V L R i : Int} (h : nodeC K V L R i = 0) : (1 ≤ K ∧ K ≤ 10) ∧ (2 < K → 0 ≤ L ∧ L ≤ i - 1) ∧ (3 ≤ K ∧ K ≤ 9 → 0 ≤ R ∧ R ≤ i - 1) ∧ (K = 2 → 0 ≤ V ∧ V ≤ 3) ∧ (K = 1 → 0 ≤ V ∧ V ≤ 9999) := by
  unfold nodeC at h
  repeat' split at h
  all_goals first | omega | (simp at h)
theorem fineN_ahead {e : List Nd} (h : fineN e) : Pl.ahead (kK e) (kL e) (kR e) e.length := by
  intro i hi
  have h0 := nodeC_0 (h i hi)
  rw [kK_at e i hi, kL_at e i hi, kR_at e i hi]
  refine ⟨fun hK => ?_, fun hT => ?_⟩
  · have := h0.2.1 hK; omega
  · have := h0.2.2.1 (of_decide_eq_true hT); omega
theorem fineN_le {e : List Nd} (h : fineN e) : ∀ i, i < e.length → kK e i ≤ 10 := by
  intro i hi
  have h0 := nodeC_0 (h i hi)
  rw [kK_at e i hi]
  omega
theorem nodesC_0 : ∀ (l : List Nd) (i : Nat), nodesC i l = 0 ↔ ∀ j (h : j < l.length), ndC l[j] (i + j) = 0
  | [], i => by simp [nodesC]
  | x :: l, i => by
    unfold nodesC
    by_cases hx : ndC x i = 0
    · rw [if_pos hx, nodesC_0 l (i + 1)]
      constructor
      · intro h j hj
        cases j with
        | zero => simpa using hx
        | succ j => have := h j (by simpa using hj); simpa [Nat.add_assoc, Nat.add_comm 1 j] using this
      · intro h j hj
        have := h (j + 1) (by simpa using hj)
        simpa [Nat.add_assoc, Nat.add_comm 1 j] using this
    · rw [if_neg hx]
      constructor
      · intro h; exact absurd h hx
      · intro h; exact absurd (show ndC x i = 0 from h 0 (by simp)) hx
theorem nodesC_fine (e : List Nd) : nodesC 0 e = 0 ↔ fineN e := by
  rw [nodesC_0]
  simp [fineN]
open Classical in
/-- Whether the nodes stand as they have to. -/
noncomputable def shapeC (e : List Nd) : Int := if (∀ j, j < e.length → Pl.ok (kK e) (kL e) (kR e) j) ∧ Pl.sz (kK e) (kL e) (kR e) (e.length - 1) = e.length then 0 else 1
/-- An expression's code. -/
noncomputable def exprC (e : List Nd) : Int := if 1 ≤ e.length ∧ e.length ≤ 16 then (if nodesC 0 e = 0 then shapeC e else nodesC 0 e) else 2
theorem walkF_len (K : Nat → Int) (L R : Nat → Nat) : ∀ f i out, (Pl.walkF K L R f i out).length ≤ max out.length (17 + f)
  | 0, i, out => by unfold Pl.walkF; omega
  | f + 1, i, out => by
    unfold Pl.walkF
    by_cases h : 16 < out.length
    · rw [if_pos h]; omega
    · rw [if_neg h, List.length_append, List.length_singleton]
      have a : (if 2 < K i then Pl.walkF K L R f (L i) out else out).length ≤ 17 + f := by
        split
        · have := walkF_len K L R f (L i) out; omega
        · omega
      have b : (if Pl.two (K i) = true then Pl.walkF K L R f (R i) (if 2 < K i then Pl.walkF K L R f (L i) out else out) else (if 2 < K i then Pl.walkF K L R f (L i) out else out)).length ≤ 17 + f := by
        split
        · have := walkF_len K L R f (R i) (if 2 < K i then Pl.walkF K L R f (L i) out else out); omega
        · exact a
      omega
theorem specWalk_ev (e : List Nd) (hl : e.length ≤ 16) (hf : fineN e) : ∀ f i out, i < f → f ≤ 16 → i < e.length → out.length ≤ 50 → Ev (fun k => spec_l3Walk.f k e (i : Int) out) (Pl.walkF (kK e) (kL e) (kR e) f i out) := by
  intro f
  induction f with
  | zero => intro i out h; omega
  | succ f ih =>
    intro i out hif hf16 hi hout
    have h0 := nodeC_0 (hf i hi)
    obtain ⟨a1, a2⟩ := fineN_ahead hf i hi
    unfold Pl.walkF
    refine Ev.step (fun k => by rw [spec_l3Walk.f]) ?_
    simp only [Pl.ev_ite, Pl.ev_none, Pl.ev_some, rd_iNode e i hi, ← kK_at e i hi]
    by_cases h16 : 16 < out.length
    · rw [if_pos (by omega), if_pos h16]
    · rw [if_neg (by omega), if_neg h16, if_pos (by omega), if_pos (by omega)]
      have tail : ∀ o1 : List Int, o1.length ≤ 50 → Ev (fun k => spec_l3Walk.j0 k e (i : Int) o1) ((if Pl.two (kK e i) = true then Pl.walkF (kK e) (kL e) (kR e) f (kR e i) o1 else o1) ++ [(i : Int)]) := by
        intro o1 ho1
        refine Ev.step (fun k => by rw [spec_l3Walk.j0]) ?_
        simp only [Pl.ev_ite, Pl.ev_none, Pl.ev_some, rd_iNode e i hi, ← kK_at e i hi, l3Two_eq, Option.bind_some]
        rw [if_pos (by omega), if_pos (by omega)]
        by_cases hT : Pl.two (kK e i) = true
        · rw [if_pos hT, if_pos hT]
          have hr := a2 hT
          have er : e[i].f3 = ((kR e i : Nat) : Int) := by
            rw [kR_at e i hi]; rw [kK_at e i hi] at hT; have := h0.2.2.1 (of_decide_eq_true hT); omega
          rw [er]
          refine Pl.ev_bind' (ih (kR e i) o1 (by omega) (by omega) (by omega) ho1) ?_
          have := walkF_len (kK e) (kL e) (kR e) f (kR e i) o1
          rw [if_pos (by omega)]
          exact Ev.now _
        · rw [if_neg hT, if_neg hT, if_pos (by omega)]
      by_cases hI : 2 < kK e i
      · have hL := a1 hI
        have el : e[i].f2 = ((kL e i : Nat) : Int) := by
          rw [kL_at e i hi]; rw [kK_at e i hi] at hI; have := h0.2.1 hI; omega
        simp only [gt_iff_lt, hI, if_true, el]
        refine Pl.ev_bind' (ih (kL e i) out (by omega) (by omega) (by omega) hout) ?_
        have := walkF_len (kK e) (kL e) (kR e) f (kL e i) out
        exact tail _ (by omega)
      · simp only [gt_iff_lt, hI, if_false]
        exact tail _ hout
theorem specShape_ev (e : List Nd) (h1 : 1 ≤ e.length) (hl : e.length ≤ 16) (hf : fineN e) : Ev (fun k => (spec_l3Walk.f k e (wrap64 ((e.length : Int) - 1)) ([] : List Int)).bind fun t => (if (t.length : Int) = (e.length : Int) then (spec_l3Fault.l1 k t 0) else (some 1))) (shapeC e) := by
  have ew : wrap64 ((e.length : Int) - 1) = ((e.length - 1 : Nat) : Int) := by rw [Pl.wrap_in (by omega) (by omega)]; omega
  rw [ew]
  have hw := specWalk_ev e hl hf e.length (e.length - 1) [] (by omega) hl (by omega) (by simp)
  refine Pl.ev_bind' hw ?_
  have hi := Pl.walk_iff h1 hl (fineN_ahead hf) (fineN_le hf)
  generalize Pl.walkF (kK e) (kL e) (kR e) e.length (e.length - 1) [] = W at hi ⊢
  have fin : ∀ m : Nat, W.length = e.length → m ≤ W.length → (∀ j (hj : j < W.length), j < m → W[j] = (j : Int)) → Ev (fun k => spec_l3Fault.l1 k W (m : Int)) (shapeC e) := by
    intro m hWl
    obtain ⟨d, hd⟩ : ∃ d, W.length - m = d := ⟨_, rfl⟩
    induction d generalizing m with
    | zero =>
      intro hm hall
      obtain rfl : m = W.length := by omega
      refine Ev.step (fun k => by rw [spec_l3Fault.l1]) ?_
      simp only [Pl.ev_ite, Pl.ev_some]
      rw [if_neg (by omega)]
      unfold shapeC
      rw [if_pos (hi.1 ?_)]
      apply List.ext_getElem
      · simp [hWl]
      · intro j h1 h2; simp [hall j h1 h1]
    | succ d ih =>
      intro hm hall
      have hm' : m < W.length := by omega
      refine Ev.step (fun k => by rw [spec_l3Fault.l1]) ?_
      simp only [Pl.ev_ite, Pl.ev_some, Pl.ev_none, Pl.rd_get W m hm', Pl.wrap_nat (show m < 9223372036854775807 by omega)]
      rw [if_pos (by omega), if_pos (by omega)]
      by_cases he : W[m] = (m : Int)
      · rw [if_pos he]
        have := ih (m + 1) (by omega) (by omega) (fun j hj hjm => by
          by_cases hjm' : j = m
          · subst hjm'; exact he
          · exact hall j hj (by omega))
        simpa using this
      · rw [if_neg he]
        unfold shapeC
        rw [if_neg (fun hc => he ?_)]
        have e' := hi.2 hc
        subst e'
        simp
  simp only [Pl.ev_ite]
  by_cases hWl : W.length = e.length
  · rw [if_pos (by omega)]
    exact fin 0 hWl (Nat.zero_le _) (fun j _ h => by omega)
  · rw [if_neg (by omega)]
    refine Pl.ev_some.2 ?_
    unfold shapeC
    rw [if_neg (fun hc => hWl ?_)]
    rw [hi.2 hc]
    simp
theorem spec3Fault_ev (e : List Nd) (hl0 : e.length ≤ 1048576) : Ev (fun k => spec_l3Fault.f k e) (exprC e) := by
  have j0 : ∀ b : Bool, (b = true ↔ ¬ (1 ≤ e.length ∧ e.length ≤ 16)) → Ev (fun k => spec_l3Fault.j0 k e b) (exprC e) := by
    intro b hb
    refine Ev.step (fun k => by rw [spec_l3Fault.j0]) ?_
    simp only [Pl.ev_ite, Pl.ev_some]
    unfold exprC
    by_cases h : 1 ≤ e.length ∧ e.length ≤ 16
    · rw [if_neg (fun x => (hb.1 x) h), if_pos h]
      have := Pl.loop (σ := Unit) (n := e.length) (g := fun k i _ => spec_l3Fault.l0 k e i) (F := fun i _ => if nodesC i (e.drop i) = 0 then shapeC e else nodesC i (e.drop i)) (fun i _ => ∀ j (hj : j < e.length), j < i → ndC e[j] j = 0) (fun _ hI => ?_) (fun i _ hi hI ih => ?_) 0 () (Nat.zero_le _) (fun j _ h => by omega)
      · simpa using this
      · refine Ev.step (fun k => by rw [spec_l3Fault.l0]) ?_
        simp only [Pl.ev_ite]
        rw [if_neg (by omega), List.drop_length]
        simp only [nodesC, if_true]
        exact specShape_ev e h.1 h.2 (fun i hi => hI i hi hi)
      · refine Ev.step (fun k => by rw [spec_l3Fault.l0]) ?_
        simp only [Pl.ev_ite, Pl.ev_none, rd_iNode e i hi, Pl.wrap_nat (show i < 9223372036854775807 by omega)]
        rw [if_pos (by omega), if_pos (by omega)]
        refine Pl.ev_bind' (specNode_ev e[i] (i : Int) (by omega) (by omega)) ?_
        rw [Pl.drop_get hi]
        unfold nodesC
        simp only [Pl.ev_ite]
        have en : ndC e[i] i = nodeC e[i].f0 e[i].f1 e[i].f2 e[i].f3 (i : Int) := rfl
        rw [← en]
        by_cases hn : ndC e[i] i = 0
        · simp only [hn, if_true]
          exact ih () (fun j hj hji => by
            by_cases hji' : j = i
            · subst hji'; exact hn
            · exact hI j hj (by omega))
        · simp only [if_neg hn]
          exact Ev.now _
    · rw [if_pos (hb.2 h), if_neg h]
  unfold spec_l3Fault.f
  simp only [Pl.ev_ite]
  split
  · rename_i h; exact j0 _ (by simp; omega)
  · rename_i h; exact j0 _ (by simp; omega)
end Go.Proofs.YtmppibhdnajjjaaDoor.P
