/- The value of an expression: the program and the reference say the same. No condition. -/
import Derived.Test.YtfgidohkkbmfjaaUType
import Derived.Test.YtfgidohkkbmfjaaUVars
import Derived.Test.YtfgidohkkbmfjaaQ3
import Derived.Test.YtfgidohkkbmfjaaQ2
import Derived.Test.YtfgidohkkbmfjaaQ10
import Derived.Test.YtfgidohkkbmfjaaQ9
import Derived.Test.YtfgidohkkbmfjaaQ8
namespace Go.Proofs.Ytfgidohkkbmfjaa.Q
set_option linter.unusedVariables false
set_option linter.unusedSimpArgs false
open Go.RowKit Go.Proofs.Ytfgidohkkbmfjaa Go.Proofs.YtfgidohkkbmfjaaW.PrintWords Go.Proofs.YtfgidohkkbmfjaaW.PrintLast
/-- What two values come to; none where they are divided by 0. -/
def rawC (K a b : Int) : Option Int :=
  if K = 3 then some (wrap64 (a + b)) else if K = 4 then some (wrap64 (a - b)) else if K = 5 then some (wrap64 (a * b))
  else if K = 6 then (if b = 0 then none else some (wrap64 (Int.tdiv a b)))
  else if K = 7 then some (if a < b then 1 else 0) else if K = 8 then some (if a = b then 1 else 0)
  else if K = 9 then some (wrap64 (a * b)) else some (wrap64 (1 - a))
def oneC (K a b : Int) : Int × Bool := match rawC K a b with | none => (0, false) | some v => (v, fine v)
theorem bool_eq (b : Bool) : spec_l3Bool.f b = some (if b = true then 1 else 0) := by cases b <;> rfl
theorem fineIn (x : Int) : impl_inRange.f x (-1000000) 1000000 = some (fine x) := by rw [inRange_eq]; rfl
theorem one_eq (K a b : Int) : spec_l3One.f K a b = some (oneC K a b) := by
  unfold spec_l3One.f oneC rawC
  simp only [in_spec, bool_eq, Option.bind_some, decide_eq_true_eq, beq_iff_eq]
  by_cases h3 : K = 3
  · simp [h3]
  by_cases h4 : K = 4
  · simp [h4]
  by_cases h5 : K = 5
  · simp [h5]
  by_cases h6 : K = 6
  · by_cases hb : b = 0 <;> simp [h6, hb]
  by_cases h7 : K = 7
  · simp [h7]
  by_cases h8 : K = 8
  · simp [h8]
  by_cases h9 : K = 9
  · simp [h9]
  simp [h3, h4, h5, h6, h7, h8, h9]
theorem reckon_eq (K a b : Int) (hK : 3 ≤ K ∧ K ≤ 9) (h9 : K = 9 → (a = 0 ∨ a = 1) ∧ (b = 0 ∨ b = 1)) : impl_reckon.f K a b = some ((rawC K a b).elim ((0, false) : Int × Bool) fun v => (v, true)) := by
  unfold impl_reckon.f rawC
  simp only [codeIf_eq, Option.bind_some, decide_eq_true_eq, beq_iff_eq]
  by_cases h3 : K = 3
  · simp [h3]
  by_cases h4 : K = 4
  · simp [h4]
  by_cases h5 : K = 5
  · simp [h5]
  by_cases h6 : K = 6
  · by_cases hb : b = 0 <;> simp [h6, hb]
  by_cases h7 : K = 7
  · simp [h7]
  by_cases h8 : K = 8
  · simp [h8]
  have e9 : K = 9 := by omega
  subst e9
  obtain ⟨ha, hb⟩ := h9 rfl
  have e : Go.bits .and .i64 a b = wrap64 (a * b) := by rcases ha with rfl | rfl <;> rcases hb with rfl | rfl <;> decide +kernel
  simp [e]
def valC (vars : List Int) (x : Nd) (vals : List Int) : Int × Bool := if x.f0 ≤ 2 then (if x.f0 = 2 then rd vars x.f1 else x.f1, true) else oneC x.f0 (rd vals x.f2) (rd vals x.f3)
/-- The values of nodes, one by one. -/
def evalsC (vars : List Int) : List Nd → List Int → Option (List Int)
  | [], vals => some vals
  | x :: l, vals => if (valC vars x vals).2 = true then evalsC vars l (vals ++ [(valC vars x vals).1]) else none
def lastC (n : Nat) (o : Option (List Int)) : Int × Bool := o.elim ((0, false) : Int × Bool) fun t => (rd t ((n - 1 : Nat) : Int), true)
theorem specEval_ev (e : List Nd) (vars : List Int) (h1 : 1 ≤ e.length) (hl : e.length ≤ 16) (hf : fineN e) (hv : vars.length = 4) : Ev (fun k => spec_l3Eval.f k e vars) (lastC e.length (evalsC vars e [])) := by
  unfold spec_l3Eval.f
  have main := Pl.loop (σ := List Int) (n := e.length) (g := fun k i s => spec_l3Eval.l0 k e vars s i) (F := fun i s => lastC e.length (evalsC vars (e.drop i) s)) (fun i s => s.length = i) ?_ ?_ 0 [] (Nat.zero_le _) rfl
  · simpa using main
  · intro s hs
    have ew : wrap64 ((s.length : Int) - 1) = ((e.length - 1 : Nat) : Int) := by rw [Pl.wrap_in (by omega) (by omega)]; omega
    refine Ev.step (fun k => by rw [spec_l3Eval.l0]) ?_
    simp only [Pl.ev_ite, Pl.ev_none, Pl.ev_some, ew]
    rw [if_neg (by omega), if_pos (by omega), if_pos (by omega), List.drop_length]
    rfl
  · intro i s hi hs ih
    have h0 := nodeC_0 (hf i hi)
    have hR : e[i].f0 = 10 → e[i].f3 = 0 := fun h => by
      have := hf i hi
      unfold ndC nodeC at this
      rw [h] at this
      simp only [show ¬ ((10 : Int) = 1 ∨ (10 : Int) = 2) by omega, if_false, if_true] at this
      split at this
      · omega
      · omega
    rw [Pl.drop_get hi]
    unfold evalsC
    generalize hx : e[i] = x at h0 hR ih ⊢
    obtain ⟨K, V, L, R⟩ := x
    simp only at h0 hR ⊢
    have lim : i < 17592186044416 := by omega
    have j1 : ∀ v : Int, (K ≤ 2 → v = if K = 2 then rd vars V else V) → Ev (fun k => spec_l3Eval.j1 k e vars s (i : Int) v K V L R) (lastC e.length (if (valC vars ⟨K, V, L, R⟩ s).2 = true then evalsC vars (e.drop (i + 1)) (s ++ [(valC vars ⟨K, V, L, R⟩ s).1]) else none)) := by
      intro v hvv
      refine Ev.step (fun k => by rw [spec_l3Eval.j1]) ?_
      simp only [Pl.ev_ite, Pl.ev_none, Pl.ev_some, one_eq, Option.bind_some, Pl.wrap_nat (show i < 9223372036854775807 by omega), hs, lim, if_true]
      unfold valC
      by_cases hI : 2 < K
      · rw [if_pos hI]
        have b1 := h0.2.1 hI
        have b2 : 0 ≤ R ∧ R < (i : Int) := by
          by_cases h10 : K = 10
          · have := hR h10; omega
          · have := h0.2.2.1 (by omega); omega
        rw [if_pos (by omega), if_pos (by omega), if_pos (by omega), if_pos (by omega)]
        simp only [if_neg (show ¬ K ≤ 2 by omega)]
        by_cases ho : (oneC K (rd s L) (rd s R)).2 = true
        · rw [if_pos ho, if_pos ho]
          exact ih _ (by simp [hs])
        · rw [if_neg ho, if_neg ho]
          rfl
      · rw [if_neg hI]
        simp only [if_pos (show K ≤ 2 by omega), if_true]
        rw [hvv (by omega)]
        exact ih _ (by simp [hs])
    refine Ev.step (fun k => by rw [spec_l3Eval.l0]) ?_
    have ex : rd_T54 e (i : Int) = ⟨K, V, L, R⟩ := by rw [rd_iNode e i hi]; exact hx
    simp only [Pl.ev_ite, Pl.ev_none, ex]
    rw [if_pos (by omega), if_pos (by omega)]
    by_cases h2 : K = 2
    · have := h0.2.2.2.1 h2
      rw [if_pos h2, if_pos (by omega), if_pos (by omega)]
      exact j1 _ (fun _ => by rw [if_pos h2])
    · rw [if_neg h2]
      exact j1 _ (fun _ => by rw [if_neg h2])
/-- Where an expression has a type, parts have the types that they have to have. -/
theorem typesC_good (e : List Nd) (hf : fineN e) (t : List Int) : ∀ d i acc, e.length - i = d → i ≤ e.length → acc = (List.range i).map (fun j => giveC (kK e j)) → typesC (e.drop i) acc = some t →
    ∀ j, i ≤ j → j < e.length → (2 < kK e j → giveC (kK e (kL e j)) = wantC (kK e j)) ∧ (Pl.two (kK e j) = true → giveC (kK e (kR e j)) = wantC (kK e j)) := by
  intro d
  induction d with
  | zero => intro i acc h1 h2 _ _ j h3 h4; omega
  | succ d ih =>
    intro i acc h1 h2 hacc ht j h3 h4
    have hi : i < e.length := by omega
    rw [Pl.drop_get hi] at ht
    unfold typesC at ht
    by_cases hg : goodC e[i] acc
    · rw [if_pos hg] at ht
      by_cases hj : j = i
      · subst hj
        have h0 := nodeC_0 (hf j hi)
        obtain ⟨a1, a2⟩ := fineN_ahead hf j hi
        have racc : ∀ m : Nat, m < j → rd acc (m : Int) = giveC (kK e m) := fun m hm => by
          rw [hacc, Pl.rd_get _ m (by simpa using hm)]
          simp
        have eK := kK_at e j hi
        refine ⟨fun h => ?_, fun h => ?_⟩
        · have hL := a1 h
          have el : e[j].f2 = ((kL e j : Nat) : Int) := by
            rw [kL_at e j hi]; rw [eK] at h; have := h0.2.1 h; omega
          have := hg.1 (by rw [← eK]; exact h)
          rw [el, racc _ hL, ← eK] at this
          exact this
        · have hR := a2 h
          have er : e[j].f3 = ((kR e j : Nat) : Int) := by
            rw [kR_at e j hi]; rw [eK] at h; have := h0.2.2.1 (of_decide_eq_true h); omega
          have := hg.2 (by rw [← eK]; exact h)
          rw [er, racc _ hR, ← eK] at this
          exact this
      · exact ih (i + 1) (acc ++ [giveC e[i].f0]) (by omega) (by omega) (by rw [hacc, List.range_succ, List.map_append, List.map_singleton, kK_at e i hi]) ht j (by omega) h4
    · rw [if_neg hg] at ht
      simp at ht
theorem implEval_ev (e : List Nd) (vars t : List Int) (h1 : 1 ≤ e.length) (hl : e.length ≤ 16) (hf : fineN e) (ht : typesC e [] = some t) (hv : vars.length = 4) (hvf : vars.all fine = true) : Ev (fun k => impl_eval.f k e vars) (lastC e.length (evalsC vars e [])) := by
  have gd := typesC_good e hf t e.length 0 [] (by omega) (by omega) rfl (by simpa using ht)
  unfold impl_eval.f
  have main := Pl.loop (σ := List Int) (n := e.length) (g := fun k i s => impl_eval.l0 k vars s e (e.length : Int) i) (F := fun i s => lastC e.length (evalsC vars (e.drop i) s)) (fun i s => s.length = i ∧ ∀ j, j < i → 7 ≤ kK e j → rd s (j : Int) = 0 ∨ rd s (j : Int) = 1) ?_ ?_ 0 [] (Nat.zero_le _) ⟨rfl, fun j h => by omega⟩
  · simpa using main
  · rintro s ⟨hs, _⟩
    have ew : wrap64 ((s.length : Int) - 1) = ((e.length - 1 : Nat) : Int) := by rw [Pl.wrap_in (by omega) (by omega)]; omega
    refine Ev.step (fun k => by rw [impl_eval.l0]) ?_
    simp only [Pl.ev_ite, Pl.ev_none, Pl.ev_some, ew]
    rw [if_neg (by omega), if_pos (by omega), if_pos (by omega), List.drop_length]
    rfl
  · rintro i s hi ⟨hs, hb⟩ ih
    have h0 := nodeC_0 (hf i hi)
    obtain ⟨a1, a2⟩ := fineN_ahead hf i hi
    obtain ⟨g1, g2⟩ := gd i (Nat.zero_le _) hi
    have eK := kK_at e i hi
    have eL : 2 < kK e i → e[i].f2 = ((kL e i : Nat) : Int) := fun h => by
      rw [kL_at e i hi]; rw [eK] at h; have := h0.2.1 h; omega
    have eR : Pl.two (kK e i) = true → e[i].f3 = ((kR e i : Nat) : Int) := fun h => by
      rw [kR_at e i hi]; rw [eK] at h; have := h0.2.2.1 (of_decide_eq_true h); omega
    have next : ∀ v : Int, (7 ≤ kK e i → v = 0 ∨ v = 1) → Ev (fun k => impl_eval.l0 k vars (s ++ [v]) e (e.length : Int) ((i : Int) + 1)) (lastC e.length (evalsC vars (e.drop (i + 1)) (s ++ [v]))) := fun v hv => by
      refine ih _ ⟨by simp [hs], fun j hj h7 => ?_⟩
      by_cases hji : j = i
      · subst hji
        have := hv h7
        have er : rd (s ++ [v]) (j : Int) = v := by
          rw [Pl.rd_get _ j (by simp [hs])]
          simp [← hs]
        rw [er]; exact this
      · have := hb j (by omega) h7
        rw [Pl.rd_get _ j (by omega)] at this
        rw [Pl.rd_get _ j (by simp; omega), List.getElem_append_left (by omega)]
        exact this
    have lim : i < 17592186044416 := by omega
    rw [Pl.drop_get hi]
    unfold evalsC valC
    rw [← eK]
    refine Ev.step (fun k => by rw [impl_eval.l0]) ?_
    simp only [Pl.ev_ite, Pl.ev_none, Pl.ev_some, rd_iNode e i hi, ← eK, fineIn, isTwo_eq, Option.bind_some, Pl.wrap_nat (show i < 9223372036854775807 by omega), hs, lim, if_true]
    rw [if_pos (by omega), if_pos (by omega), if_pos (by omega)]
    by_cases h2 : kK e i = 2
    · have b := h0.2.2.2.1 (by rw [← eK]; exact h2)
      rw [if_pos h2, if_pos (by omega), if_pos (by omega), if_pos (show kK e i ≤ 2 by omega), if_pos h2]
      have fv : fine (rd vars e[i].f1) = true := by
        obtain ⟨m, hm⟩ : ∃ m : Nat, e[i].f1 = (m : Int) := ⟨e[i].f1.toNat, by omega⟩
        rw [hm, Pl.rd_get vars m (by omega)]
        exact List.all_eq_true.1 hvf _ (List.getElem_mem _)
      rw [if_pos fv]
      simp only [if_true]
      exact next _ (fun h => by omega)
    · rw [if_neg h2]
      by_cases h10 : kK e i = 10
      · have hI : 2 < kK e i := by omega
        have hL := a1 hI
        rw [if_pos h10, if_pos (by rw [eL hI]; omega), if_pos (by rw [eL hI]; omega), if_neg (show ¬ kK e i ≤ 2 by omega)]
        have eo : oneC (kK e i) (rd s e[i].f2) (rd s e[i].f3) = (wrap64 (1 - rd s e[i].f2), fine (wrap64 (1 - rd s e[i].f2))) := by
          unfold oneC rawC
          simp [h10]
        rw [eo]
        by_cases hfi : fine (wrap64 (1 - rd s e[i].f2)) = true
        · rw [if_pos hfi, if_pos hfi]
          refine next _ (fun _ => ?_)
          have w := g1 hI
          have w7 : 7 ≤ kK e (kL e i) := by
            unfold giveC wantC at w
            rw [h10] at w
            by_cases h6 : kK e (kL e i) ≤ 6
            · rw [if_pos h6] at w; simp at w
            · omega
          have := hb (kL e i) hL w7
          rw [← eL hI] at this
          rcases this with h | h <;> rw [h]
          · right; decide +kernel
          · left; decide +kernel
        · rw [if_neg hfi, if_neg hfi]
          rfl
      · rw [if_neg h10]
        by_cases hT : Pl.two (kK e i) = true
        · have hI := Pl.two_inner hT
          have hL := a1 hI
          have hR := a2 hT
          have hK := of_decide_eq_true hT
          rw [if_pos hT, if_pos (by rw [eL hI]; omega), if_pos (by rw [eL hI]; omega), if_pos (by rw [eR hT]; omega), if_pos (by rw [eR hT]; omega), if_neg (show ¬ kK e i ≤ 2 by omega)]
          have h9 : kK e i = 9 → (rd s e[i].f2 = 0 ∨ rd s e[i].f2 = 1) ∧ (rd s e[i].f3 = 0 ∨ rd s e[i].f3 = 1) := fun h => by
            have w1 := g1 hI
            have w2 := g2 hT
            rw [h] at w1 w2
            have k1 : 7 ≤ kK e (kL e i) := by
              unfold giveC wantC at w1
              by_cases h6 : kK e (kL e i) ≤ 6
              · rw [if_pos h6] at w1; simp at w1
              · omega
            have k2 : 7 ≤ kK e (kR e i) := by
              unfold giveC wantC at w2
              by_cases h6 : kK e (kR e i) ≤ 6
              · rw [if_pos h6] at w2; simp at w2
              · omega
            have c1 := hb (kL e i) hL k1
            have c2 := hb (kR e i) hR k2
            rw [← eL hI] at c1
            rw [← eR hT] at c2
            exact ⟨c1, c2⟩
          have er := reckon_eq (kK e i) (rd s e[i].f2) (rd s e[i].f3) hK h9
          unfold oneC
          cases hr : rawC (kK e i) (rd s e[i].f2) (rd s e[i].f3) with
          | none =>
            rw [hr] at er
            simp only [Option.elim] at er
            simp only [er, Option.bind_some, Bool.false_eq_true, if_false]
            exact Ev.now _
          | some v =>
            rw [hr] at er
            simp only [Option.elim] at er
            simp only [er, Option.bind_some, if_true]
            simp only [Pl.ev_ite, Pl.ev_some]
            by_cases hfi : fine v = true
            · rw [if_pos hfi, if_pos hfi]
              refine next _ (fun h7 => ?_)
              unfold rawC at hr
              by_cases e7 : kK e i = 7
              · simp [e7] at hr
                rw [← hr]; split <;> simp
              by_cases e8 : kK e i = 8
              · simp [e8] at hr
                rw [← hr]; split <;> simp
              have e9 : kK e i = 9 := by omega
              obtain ⟨c1, c2⟩ := h9 e9
              simp [e9] at hr
              rw [← hr]
              rcases c1 with c1 | c1 <;> rcases c2 with c2 | c2 <;> rw [c1, c2] <;> decide +kernel
            · rw [if_neg hfi, if_neg hfi]
              rfl
        · rw [if_neg hT]
          have hI : kK e i ≤ 2 := by
            have := fineN_le hf i hi
            by_cases h : kK e i ≤ 2
            · exact h
            · exact absurd (decide_eq_true (by omega)) hT
          have e1 : kK e i = 1 := by have := h0.1; omega
          have b := h0.2.2.2.2 (by rw [← eK]; exact e1)
          have fv : fine e[i].f1 = true := decide_eq_true (by omega)
          rw [if_pos fv, if_pos hI, if_neg h2]
          simp only [if_true]
          exact next _ (fun h => by omega)
/-- What an expression comes to with variables. -/
noncomputable def evalC (e : List Nd) (vars : List Int) : Int × Int :=
  if (typeC e).1 = 0 then (if varsC vars = 0 then (if (lastC e.length (evalsC vars e [])).2 = true then (0, (lastC e.length (evalsC vars e [])).1) else (8, 0)) else (varsC vars, 0)) else ((typeC e).1, 0)
theorem typeC_0 {e : List Nd} (h : (typeC e).1 = 0) : (1 ≤ e.length ∧ e.length ≤ 16) ∧ fineN e ∧ ∃ t, typesC e [] = some t := by
  unfold typeC at h
  by_cases hx : exprC e = 0
  · obtain ⟨h1, h2⟩ := exprC_0 hx
    refine ⟨h1, h2, ?_⟩
    rw [if_pos hx] at h
    cases ht : typesC e [] with
    | none => rw [ht] at h; simp at h
    | some t => exact ⟨t, rfl⟩
  · rw [if_neg hx] at h; exact absurd h hx
theorem varsC_0 {vars : List Int} (h : varsC vars = 0) : vars.length = 4 ∧ vars.all fine = true := by
  unfold varsC at h
  by_cases h4 : vars.length = 4
  · rw [if_pos h4] at h
    refine ⟨h4, ?_⟩
    cases ha : vars.all fine
    · rw [ha] at h; simp at h
    · rfl
  · rw [if_neg h4] at h; simp at h
theorem specEvalExpr_ev (e : List Nd) (vars : List Int) (hl0 : e.length ≤ 1048576) (hv : vars.length ≤ 1048576) : Ev (fun k => spec_EvalExpr.f k e vars) (evalC e vars) := by
  unfold spec_EvalExpr.f
  refine Pl.ev_bind' (spec3Type_ev e hl0) ?_
  unfold evalC
  simp only [Pl.ev_ite]
  by_cases hc : (typeC e).1 = 0
  · rw [if_pos hc, if_pos hc]
    refine Pl.ev_bind' (specVars_ev vars hv) ?_
    simp only [← varsC.eq_def, Pl.ev_ite]
    by_cases hvc : varsC vars = 0
    · rw [if_pos hvc, if_pos hvc]
      obtain ⟨⟨h1, h2⟩, h3, t, h4⟩ := typeC_0 hc
      obtain ⟨h5, h6⟩ := varsC_0 hvc
      refine Pl.ev_bind' (specEval_ev e vars h1 h2 h3 h5) ?_
      by_cases hb : (lastC e.length (evalsC vars e [])).2 = true
      · simp only [if_pos hb]; exact Ev.now _
      · simp only [if_neg hb]; exact Ev.now _
    · rw [if_neg hvc, if_neg hvc]
      exact Ev.now _
  · rw [if_neg hc, if_neg hc]
    exact Ev.now _
theorem implEvalExpr_ev (e : List Nd) (vars : List Int) (hv : vars.length ≤ 1048576) : Ev (fun k => impl_EvalExpr.f k e vars) (evalC e vars) := by
  unfold impl_EvalExpr.f
  refine Pl.ev_bind' (implType_ev e) ?_
  refine Pl.ev_bind' (implVars_ev vars hv) ?_
  simp only [← varsC.eq_def]
  unfold evalC
  by_cases hc : (typeC e).1 = 0
  · rw [if_pos hc]
    by_cases hvc : varsC vars = 0
    · rw [if_pos hvc]
      refine Pl.ev_bind' (a := 0) (Pl.ev_to (firstCode_ev _ (by simp)) (by simp [Pl.firstC, hc, hvc])) ?_
      obtain ⟨⟨h1, h2⟩, h3, t, h4⟩ := typeC_0 hc
      obtain ⟨h5, h6⟩ := varsC_0 hvc
      simp only [if_true]
      refine Pl.ev_bind' (implEval_ev e vars t h1 h2 h3 h4 h5 h6) ?_
      by_cases hb : (lastC e.length (evalsC vars e [])).2 = true
      · simp only [if_pos hb]; exact Ev.now _
      · simp only [if_neg hb]; exact Ev.now _
    · rw [if_neg hvc]
      refine Pl.ev_bind' (a := varsC vars) (Pl.ev_to (firstCode_ev _ (by simp)) (by simp [Pl.firstC, hc, hvc])) ?_
      simp only [if_neg hvc]
      exact Ev.now _
  · rw [if_neg hc]
    refine Pl.ev_bind' (a := (typeC e).1) (Pl.ev_to (firstCode_ev _ (by simp)) (by simp [Pl.firstC, hc])) ?_
    simp only [if_neg hc]
    exact Ev.now _
end Go.Proofs.Ytfgidohkkbmfjaa.Q
