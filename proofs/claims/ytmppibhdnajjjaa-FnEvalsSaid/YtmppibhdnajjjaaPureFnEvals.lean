/- FnEvals: for every code the law on the program's EvalExpr, TypeOf and VarsIn holds at what the code draws; no condition. -/
import Derived.Test.YtmppibhdnajjjaaUAll
import Derived.Test.YtmppibhdnajjjaaV18
import Derived.Test.YtmppibhdnajjjaaV9
import Derived.Test.YtmppibhdnajjjaaV12
import Derived.Test.YtmppibhdnajjjaaV19
namespace Go.Proofs.Ytmppibhdnajjjaa.V
set_option linter.unusedVariables false
set_option linter.unusedSimpArgs false
open Go.RowKit Go.Proofs.Ytmppibhdnajjjaa Go.Proofs.YtmppibhdnajjjaaW.PrintWords Go.Proofs.YtmppibhdnajjjaaW.PrintLast
theorem vars3_ev {c : List Int} (hc : codeOk c) (a : Int) (h0 : 0 ≤ a) (h1 : a ≤ 1000) : ∃ l, Ev (fun k => spec_l3Vars.f k c a) (l, a + 8) ∧ l.length = 4 := by
  have main : ∀ d i : Nat, 4 - i = d → i ≤ 4 → ∀ x : List Int, x.length = i → ∃ l, Ev (fun k => spec_l3Vars.l0 k x (i : Int) c (a + 2 * (i : Int))) (l, a + 8) ∧ l.length = 4 := by
    intro d
    induction d with
    | zero =>
      intro i hd hi x hx
      obtain rfl : i = 4 := by omega
      refine ⟨x, Ev.step (fun k => by rw [spec_l3Vars.l0]) (Pl.ev_ite_neg (by omega) (Pl.ev_to (Ev.now _) ?_)), hx⟩
      congr 1
    | succ d ih =>
      intro i hd hi x hx
      obtain ⟨v, ev, v0, v1⟩ := next_ev hc (a + 2 * (i : Int)) (by omega) (by omega) 20 (by omega) (by omega)
      obtain ⟨u, eu, _⟩ := pick_ev hc (a + 2 * (i : Int) + 1) (by omega) (by omega) [0, 1, 2, wrap64 (v - 5), 999999] (by simp) (by simp)
      obtain ⟨l, hl, h4⟩ := ih (i + 1) (by omega) (by omega) (x ++ [u]) (by simp [hx])
      refine ⟨l, Ev.step (fun k => by rw [spec_l3Vars.l0]) (Pl.ev_ite_pos (by omega) ?_), h4⟩
      rw [ev]
      simp only [Option.bind_some]
      rw [eu]
      simp only [Option.bind_some]
      refine Pl.ev_ite_pos (by omega) ?_
      rw [Pl.wrap_nat (show i < 9223372036854775807 by omega)]
      have e : a + 2 * (i : Int) + 1 + 1 = a + 2 * ((i + 1 : Nat) : Int) := by omega
      rw [e]
      exact hl
  obtain ⟨l, hl, h4⟩ := main 4 0 rfl (by omega) [] rfl
  refine ⟨l, ?_, h4⟩
  unfold spec_l3Vars.f
  simpa using hl
theorem drawVars_ev {c : List Int} (hc : codeOk c) : ∃ l, Ev (fun k => spec_DrawVarsFault.f k c) l ∧ l.length ≤ 4 := by
  obtain ⟨l, hl, h4⟩ := vars3_ev hc 0 (by omega) (by omega)
  obtain ⟨s, es, s0, s1⟩ := next_ev hc (0 + 8) (by omega) (by omega) 6 (by omega) (by omega)
  have es0 : spec_l1Source.f c = some (c, 0) := rfl
  have start : ∀ R, Ev (fun k => (if s = 0 then ((spec_l1Pick.f c (0 + 8 + 1) (([1000001, (-1000001), (-1000000)] : List Int))).bind fun bt457 => (if 0 < (l.length : Int) then (some (l.set (0 : Int).toNat bt457.1)) else (none))) else (if s = 1 then (if 1 ≤ (l.length : Int) then (some (l.drop (1 : Int).toNat)) else (none)) else (some l)))) R → Ev (fun k => spec_DrawVarsFault.f k c) R := by
    intro R h
    unfold spec_DrawVarsFault.f
    rw [es0]
    simp only [Option.bind_some]
    refine Pl.ev_bind' hl ?_
    simp only [es, Option.bind_some]
    exact h
  by_cases c0 : s = 0
  · obtain ⟨u, eu, _⟩ := pick_ev hc (0 + 8 + 1) (by omega) (by omega) [1000001, (-1000001), (-1000000)] (by simp) (by simp)
    refine ⟨l.set (0 : Int).toNat u, start _ (Pl.ev_ite_pos c0 ?_), by simp; omega⟩
    rw [eu]
    exact Pl.ev_ite_pos (by omega) (Ev.now _)
  by_cases c1 : s = 1
  · exact ⟨l.drop (1 : Int).toNat, start _ (Pl.ev_ite_neg c0 (Pl.ev_ite_pos c1 (Pl.ev_ite_pos (by omega) (Ev.now _)))), by simp; omega⟩
  exact ⟨l, start _ (Pl.ev_ite_neg c0 (Pl.ev_ite_neg c1 (Ev.now _))), by omega⟩
theorem drawEval_ev {c : List Int} (hb : ¬ (c.length : Int) > 1048576) (hc : codeOk c) : ∃ e l, Ev (fun k => spec_DrawEvalExpr.f k c) (e, l) ∧ e.length ≤ 17 ∧ l.length ≤ 4 := by
  obtain ⟨e, a, he, h17, _, _⟩ := bent3_ev hc 0 (by omega) (by omega)
  have hc3 : codeOk ([3] ++ c) := ⟨by simp; omega, fun x hx => by
    rcases List.mem_append.1 hx with hx | hx
    · rw [List.mem_singleton] at hx; omega
    · exact hc.2 x hx⟩
  obtain ⟨l, hl, h4⟩ := drawVars_ev hc3
  have es0 : spec_l1Source.f c = some (c, 0) := rfl
  refine ⟨e, l, ?_, h17, h4⟩
  unfold spec_DrawEvalExpr.f
  rw [es0]
  simp only [Option.bind_some]
  exact Pl.ev_bind' he (Pl.ev_ite_pos (by simp; omega) (Pl.ev_bind' hl (Ev.now _)))
theorem lwHas_ev (l : List Int) (v : Int) (hl : l.length ≤ 1048576) : Ev (fun k => laws_lwHas.f k l v) (decide (v ∈ l)) := by
  have main : ∀ d i : Nat, l.length - i = d → i ≤ l.length → Ev (fun k => laws_lwHas.l0 k l v (i : Int)) (decide (v ∈ l.drop i)) := by
    intro d
    induction d with
    | zero =>
      intro i hd hi
      obtain rfl : i = l.length := by omega
      refine Ev.step (fun k => by rw [laws_lwHas.l0]) (Pl.ev_ite_neg (by omega) (Pl.ev_to (Ev.now _) ?_))
      rw [List.drop_length]
      simp
    | succ d ih =>
      intro i hd hi
      have hi' : i < l.length := by omega
      refine Ev.step (fun k => by rw [laws_lwHas.l0]) (Pl.ev_ite_pos (by omega) (Pl.ev_ite_pos (by omega) ?_))
      rw [Pl.rd_get l i hi', Pl.drop_get hi', Pl.wrap_nat (show i < 9223372036854775807 by omega)]
      by_cases h : l[i] = v
      · refine Pl.ev_ite_pos h (Pl.ev_to (Ev.now _) ?_)
        rw [h]
        simp
      · refine Pl.ev_ite_neg h ?_
        have := ih (i + 1) (by omega) (by omega)
        refine Pl.ev_to (by simpa using this) ?_
        rw [decide_eq_decide, List.mem_cons]
        constructor
        · exact Or.inr
        · rintro (h' | h')
          · exact absurd h'.symm h
          · exact h'
  have := main l.length 0 (by omega) (Nat.zero_le _)
  unfold laws_lwHas.f
  simpa using this
theorem typesC_val : ∀ (l : List Nd) (acc t : List Int), typesC l acc = some t → t = acc ++ l.map fun x => giveC x.f0
  | [], acc, t, h => by
    obtain rfl : acc = t := Option.some.inj h
    simp
  | x :: l, acc, t, h => by
    unfold typesC at h
    by_cases hg : goodC x acc
    · rw [if_pos hg] at h
      rw [typesC_val l _ t h]
      simp
    · rw [if_neg hg] at h; cases h
theorem evalsC_same (vars vars' : List Int) : ∀ (l : List Nd) (s : List Int), (∀ x ∈ l, x.f0 = 2 → rd vars x.f1 = rd vars' x.f1) → evalsC vars l s = evalsC vars' l s
  | [], s, _ => rfl
  | x :: l, s, h => by
    have e : valC vars x s = valC vars' x s := by
      unfold valC
      by_cases h2 : x.f0 = 2
      · rw [if_pos (show x.f0 ≤ 2 by omega), if_pos (show x.f0 ≤ 2 by omega), if_pos h2, if_pos h2, h x List.mem_cons_self h2]
      · by_cases h3 : x.f0 ≤ 2
        · rw [if_pos h3, if_pos h3, if_neg h2, if_neg h2]
        · rw [if_neg h3, if_neg h3]
    unfold evalsC
    rw [e, evalsC_same vars vars' l _ (fun y hy => h y (List.mem_cons_of_mem _ hy))]
/-- Values are small, and those of truths are 0 or 1. -/
theorem evalsC_good (e : List Nd) (vars t : List Int) (hl : e.length ≤ 16) (hf : fineN e) (ht : typesC e [] = some t) (hv : vars.length = 4) (hvf : vars.all fine = true) : ∀ d i s, e.length - i = d → i ≤ e.length → s.length = i →
    (∀ j : Nat, j < i → fine (rd s (j : Int)) = true ∧ (7 ≤ kK e j → rd s (j : Int) = 0 ∨ rd s (j : Int) = 1)) → ∀ out, evalsC vars (e.drop i) s = some out → out.length = e.length ∧ ∀ j : Nat, j < e.length → fine (rd out (j : Int)) = true ∧ (7 ≤ kK e j → rd out (j : Int) = 0 ∨ rd out (j : Int) = 1) := by
  have gd := typesC_good e hf t e.length 0 [] (by omega) (by omega) rfl (by simpa using ht)
  intro d
  induction d with
  | zero =>
    intro i s hd hi hs hb out ho
    obtain rfl : i = e.length := by omega
    rw [List.drop_length] at ho
    obtain rfl : s = out := Option.some.inj ho
    exact ⟨hs, hb⟩
  | succ d ih =>
    intro i s hd hi hs hb out ho
    have hi' : i < e.length := by omega
    have h0 := nodeC_0 (hf i hi')
    obtain ⟨a1, a2⟩ := fineN_ahead hf i hi'
    obtain ⟨g1, g2⟩ := gd i (Nat.zero_le _) hi'
    have eK := kK_at e i hi'
    have eL : 2 < kK e i → e[i].f2 = ((kL e i : Nat) : Int) := fun h => by
      rw [kL_at e i hi']; rw [eK] at h; have := h0.2.1 h; omega
    have eR : Pl.two (kK e i) = true → e[i].f3 = ((kR e i : Nat) : Int) := fun h => by
      rw [kR_at e i hi']; rw [eK] at h; have := h0.2.2.1 (of_decide_eq_true h); omega
    rw [Pl.drop_get hi'] at ho
    unfold evalsC at ho
    by_cases hc : (valC vars e[i] s).2 = true
    · rw [if_pos hc] at ho
      refine ih (i + 1) _ (by omega) (by omega) (by simp [hs]) (fun j hj => ?_) out ho
      by_cases hji : j = i
      · subst hji
        have er : rd (s ++ [(valC vars e[j] s).1]) (j : Int) = (valC vars e[j] s).1 := by
          rw [Pl.rd_get _ j (by simp [hs])]
          simp [← hs]
        rw [er]
        unfold valC at hc ⊢
        rw [← eK] at hc ⊢
        by_cases h2 : kK e j ≤ 2
        · rw [if_pos h2] at hc ⊢
          refine ⟨?_, fun h => by omega⟩
          by_cases h3 : kK e j = 2
          · have b := h0.2.2.2.1 (by rw [← eK]; exact h3)
            rw [if_pos h3]
            obtain ⟨m, hm⟩ : ∃ m : Nat, e[j].f1 = (m : Int) := ⟨e[j].f1.toNat, by omega⟩
            show fine (rd vars e[j].f1) = true
            rw [hm, Pl.rd_get vars m (by omega)]
            exact List.all_eq_true.1 hvf _ (List.getElem_mem _)
          · have e1 : kK e j = 1 := by have := h0.1; omega
            have b := h0.2.2.2.2 (by rw [← eK]; exact e1)
            rw [if_neg h3]
            exact decide_eq_true (by omega)
        · rw [if_neg h2] at hc ⊢
          unfold oneC at hc ⊢
          have zero1 : ∀ m : Nat, m < j → 7 ≤ kK e m → rd s (m : Int) = 0 ∨ rd s (m : Int) = 1 := fun m hm h7 => (hb m (by omega)).2 h7
          cases hr : rawC (kK e j) (rd s e[j].f2) (rd s e[j].f3) with
          | none => rw [hr] at hc; cases hc
          | some v =>
            rw [hr] at hc
            refine ⟨hc, fun h7 => ?_⟩
            show v = 0 ∨ v = 1
            unfold rawC at hr
            by_cases e7 : kK e j = 7
            · simp [e7] at hr
              rw [← hr]; split <;> simp
            by_cases e8 : kK e j = 8
            · simp [e8] at hr
              rw [← hr]; split <;> simp
            have hI : 2 < kK e j := by omega
            have hL := a1 hI
            have w1 := g1 hI
            have k1 : 7 ≤ kK e (kL e j) := by
              unfold giveC wantC at w1
              by_cases h6 : kK e (kL e j) ≤ 6
              · rw [if_pos h6, if_neg (by omega)] at w1; simp at w1
              · omega
            have z1 := zero1 _ hL k1
            rw [← eL hI] at z1
            have hle := fineN_le hf j hi'
            by_cases e9 : kK e j = 9
            · have hT : Pl.two (kK e j) = true := decide_eq_true (by omega)
              have hR := a2 hT
              have w2 := g2 hT
              have k2 : 7 ≤ kK e (kR e j) := by
                unfold giveC wantC at w2
                by_cases h6 : kK e (kR e j) ≤ 6
                · rw [if_pos h6, if_neg (by omega)] at w2; simp at w2
                · omega
              have z2 := zero1 _ hR k2
              rw [← eR hT] at z2
              simp [e9] at hr
              rw [← hr]
              rcases z1 with z1 | z1 <;> rcases z2 with z2 | z2 <;> rw [z1, z2] <;> decide +kernel
            · have e10 : kK e j = 10 := by omega
              simp [e10] at hr
              rw [← hr]
              rcases z1 with z1 | z1 <;> rw [z1] <;> decide +kernel
      · have := hb j (by omega)
        rw [Pl.rd_get _ j (by omega)] at this
        rw [Pl.rd_get _ j (by simp; omega), List.getElem_append_left (by omega)]
        exact this
    · rw [if_neg hc] at ho; cases ho
theorem nodeC_in (K V L R i : Int) : nodeC K V L R i ≠ 8 := by
  unfold nodeC
  intro h
  split at h
  · split at h <;> (try split at h) <;> (try split at h) <;> omega
  · split at h <;> (try split at h) <;> (try split at h) <;> (try split at h) <;> (try split at h) <;> omega
theorem nodesC_in : ∀ (l : List Nd) (i : Nat), nodesC i l ≠ 8
  | [], i => by unfold nodesC; decide
  | x :: l, i => by
    unfold nodesC
    by_cases h : ndC x i = 0
    · rw [if_pos h]
      exact nodesC_in l (i + 1)
    · rw [if_neg h]
      exact nodeC_in _ _ _ _ _
theorem typeC_in (e : List Nd) : (typeC e).1 ≠ 8 := by
  unfold typeC
  by_cases h : exprC e = 0
  · rw [if_pos h]
    cases typesC e [] with
    | none => simp
    | some t => simp
  · rw [if_neg h]
    show exprC e ≠ 8
    unfold exprC
    by_cases hl : 1 ≤ e.length ∧ e.length ≤ 16
    · rw [if_pos hl]
      by_cases hn : nodesC 0 e = 0
      · rw [if_pos hn]
        unfold shapeC
        split <;> omega
      · rw [if_neg hn]
        exact nodesC_in e 0
    · rw [if_neg hl]
      omega
theorem varsC_in (l : List Int) : varsC l ≠ 8 := by
  unfold varsC
  by_cases h : l.length = 4
  · rw [if_pos h]
    cases l.all fine <;> simp
  · rw [if_neg h]
    omega
/-- What an answer tells of what was asked. -/
theorem evalC_ok {e : List Nd} {vars : List Int} (h : (evalC e vars).1 = 0 ∨ (evalC e vars).1 = 8) : (typeC e).1 = 0 ∧ varsC vars = 0 := by
  unfold evalC at h
  by_cases hc : (typeC e).1 = 0
  · rw [if_pos hc] at h
    by_cases hv : varsC vars = 0
    · exact ⟨hc, hv⟩
    · rw [if_neg hv] at h
      have := varsC_in vars
      rcases h with h | h <;> simp at h <;> omega
  · rw [if_neg hc] at h
    have := typeC_in e
    rcases h with h | h <;> simp at h <;> omega
theorem typeC_expr {e : List Nd} (h : (typeC e).1 = 0) : exprC e = 0 := by
  unfold typeC at h
  by_cases hx : exprC e = 0
  · exact hx
  · rw [if_neg hx] at h; exact absurd h hx
/-- The value of an expression is small, and that of a truth is 0 or 1. -/
theorem evals_val {e : List Nd} {vars : List Int} (ht : (typeC e).1 = 0) (hv : varsC vars = 0) : (evalC e vars).2 ≥ -1000000 ∧ (evalC e vars).2 ≤ 1000000 ∧ ((typeC e).2 = 2 → (evalC e vars).2 = 0 ∨ (evalC e vars).2 = 1) := by
  obtain ⟨⟨n1, n16⟩, hf, t, hty⟩ := typeC_0 ht
  obtain ⟨v4, vf⟩ := varsC_0 hv
  have hx := typeC_expr ht
  unfold evalC
  rw [if_pos ht, if_pos hv]
  by_cases hok : (lastC e.length (evalsC vars e [])).2 = true
  · rw [if_pos hok]
    cases hev : evalsC vars e [] with
    | none => rw [hev] at hok; simp [lastC] at hok
    | some out =>
      obtain ⟨g1, g2⟩ := evalsC_good e vars t n16 hf hty v4 vf e.length 0 [] (by omega) (by omega) rfl (fun j hj => by omega) out (by simpa using hev)
      obtain ⟨f1, f2⟩ := g2 (e.length - 1) (by omega)
      have f1' := of_decide_eq_true f1
      show rd out ((e.length - 1 : Nat) : Int) ≥ -1000000 ∧ rd out ((e.length - 1 : Nat) : Int) ≤ 1000000 ∧ ((typeC e).2 = 2 → rd out ((e.length - 1 : Nat) : Int) = 0 ∨ rd out ((e.length - 1 : Nat) : Int) = 1)
      refine ⟨by omega, by omega, fun h2 => f2 ?_⟩
      unfold typeC at h2
      rw [if_pos hx, hty] at h2
      have h2' : rd t ((e.length - 1 : Nat) : Int) = 2 := h2
      have htv := typesC_val e [] t hty
      rw [List.nil_append] at htv
      rw [htv, Pl.rd_get _ (e.length - 1) (by simp; omega), List.getElem_map] at h2'
      rw [kK_at e (e.length - 1) (by omega)]
      unfold giveC at h2'
      by_cases h6 : e[e.length - 1].f0 ≤ 6
      · rw [if_pos h6] at h2'; omega
      · omega
  · rw [if_neg hok]
    refine ⟨by simp, by simp, fun _ => .inl rfl⟩
theorem evals_other {e : List Nd} {vars o : List Int} (hf : fineN e) (hv : varsC vars = 0) (vo : varsC o = 0) (hsame : ∀ i : Nat, i < 4 → (i : Int) ∈ varsL e → rd o (i : Int) = rd vars (i : Int)) : evalC e o = evalC e vars := by
  have : evalsC o e [] = evalsC vars e [] := by
    refine evalsC_same o vars e [] (fun x hx2 h2 => ?_)
    have hm : x.f1 ∈ varsL e := by
      unfold varsL
      exact List.mem_map.2 ⟨x, List.mem_filter.2 ⟨hx2, decide_eq_true h2⟩, rfl⟩
    obtain ⟨b0, b3⟩ := varsL_in hf _ hm
    obtain ⟨m, hm'⟩ : ∃ m : Nat, x.f1 = (m : Int) := ⟨x.f1.toNat, by omega⟩
    rw [hm']
    exact hsame m (by omega) (by rw [← hm']; exact hm)
  unfold evalC
  rw [this, if_pos vo, if_pos hv]
theorem evals_loop {e : List Nd} {vars l : List Int} {c1 c2 t1 t2 x : Int} (hle : l = specL e 4) (hl : l.length ≤ 1048576) (hf : fineN e)
    (hend : ∀ o : List Int, o.length = 4 → o.all fine = true → (∀ i : Nat, i < 4 → (i : Int) ∈ varsL e → rd o (i : Int) = rd vars (i : Int)) → Ev (fun k => laws_FnEvals.l0 k e vars o ((4 : Nat) : Int) c1 c2 t1 t2 x l) true) :
    ∀ d v : Nat, 4 - v = d → v ≤ 4 → ∀ o : List Int, o.length = 4 → o.all fine = true → (∀ i : Nat, i < 4 → (i : Int) ∈ varsL e → rd o (i : Int) = rd vars (i : Int)) → Ev (fun k => laws_FnEvals.l0 k e vars o (v : Int) c1 c2 t1 t2 x l) true := by
  intro d
  induction d with
  | zero =>
    intro v hd' hv' o ho hof hsame
    obtain rfl : v = 4 := by omega
    exact hend o ho hof hsame
  | succ d ih =>
    intro v hd' hv' o ho hof hsame
    have wv : wrap64 ((v : Int) + 1) = ((v + 1 : Nat) : Int) := by rw [Pl.wrap_in (by omega) (by omega)]; omega
    refine Ev.step (fun k => by rw [laws_FnEvals.l0]) (Pl.ev_ite_pos (by omega) ?_)
    refine Ev.step (fun k => by rw [laws_FnEvals.j2]) (Pl.ev_ite_pos (decide_eq_true (by omega)) (Pl.ev_bind' (lwHas_ev l (v : Int) hl) ?_))
    rw [wv]
    by_cases hm : (v : Int) ∈ l
    · exact Pl.ev_ite_pos (decide_eq_true hm) (ih (v + 1) (by omega) (by omega) o ho hof hsame)
    · refine Pl.ev_ite_neg (by simpa using hm) (Pl.ev_ite_pos (by omega) (Pl.ev_ite_pos (by omega) ?_))
      rw [Int.toNat_natCast]
      refine ih (v + 1) (by omega) (by omega) (o.set v 17) (by simp [ho]) ?_ (fun i hi him => ?_)
      · rw [List.all_eq_true] at hof ⊢
        intro x hx2
        rcases List.mem_or_eq_of_mem_set hx2 with h | h
        · exact hof x h
        · rw [h]; decide +kernel
      · rw [rd_set _ _ _ _ (by omega)]
        have hne : i ≠ v := by
          rintro rfl
          refine hm ?_
          rw [hle]
          exact (specL_mem hf _).2 him
        rw [if_neg hne]
        exact hsame i hi him
end Go.Proofs.Ytmppibhdnajjjaa.V
namespace Go.Proofs.Ytmppibhdnajjjaa.Pure
open Go.RowKit Go.Proofs.Ytmppibhdnajjjaa Go.Proofs.Ytmppibhdnajjjaa.V Go.Proofs.YtmppibhdnajjjaaW.PrintWords Go.Proofs.YtmppibhdnajjjaaW.PrintLast
theorem FnEvals : laws_FnEvals.Pure := by
  intro c _ _ hw
  refine Ev.rounds (g := fun k => laws_FnEvals.f k c) ?_
  unfold laws_FnEvals.f laws_lwBig.f
  simp only [Option.bind_some]
  by_cases hb : (c.length : Int) > 1048576
  · exact Pl.ev_ite_pos (decide_eq_true hb) (Ev.now _)
  · refine Pl.ev_ite_neg (by simpa using hb) ?_
    obtain ⟨e, vars, hd, h17, h4⟩ := drawEval_ev hb (codeOk_of hb hw)
    have ei := implEvalExpr_ev e vars (by omega)
    have ti := implType_ev e
    have es := specEvalExpr_ev e vars (by omega) (by omega)
    have ts : Ev (fun k => spec_TypeOf.f k e) (typeC e) := by
      unfold spec_TypeOf.f
      exact Pl.ev_bind' (spec3Type_ev e (by omega)) (Ev.now _)
    refine Pl.ev_bind' hd (Pl.ev_bind' ei (Pl.ev_bind' ti ?_))
    have bad : Ev (fun k => laws_FnEvals.j0 k e vars true (evalC e vars).1 (evalC e vars).2 (typeC e).1 (typeC e).2) true := by
      refine Ev.step (fun k => by rw [laws_FnEvals.j0]) (Pl.ev_ite_pos rfl (Pl.ev_bind' es (Pl.ev_ite_pos rfl (Pl.ev_bind' ts ?_))))
      show Ev (fun _ => some ((typeC e).1 == (typeC e).1)) true
      rw [beq_self_eq_true]
      exact Ev.now _
    have good : ((evalC e vars).1 = 0 ∨ (evalC e vars).1 = 8) → Ev (fun k => laws_FnEvals.j0 k e vars false (evalC e vars).1 (evalC e vars).2 (typeC e).1 (typeC e).2) true := by
      intro hr
      obtain ⟨ht, hv⟩ := evalC_ok hr
      obtain ⟨⟨n1, n16⟩, hf, t, hty⟩ := typeC_0 ht
      obtain ⟨v4, vf⟩ := varsC_0 hv
      have hx := typeC_expr ht
      obtain ⟨l, hl, _, mi, hle⟩ := varsIn_ev e (by omega)
      have hle := hle hx
      refine Ev.step (fun k => by rw [laws_FnEvals.j0]) (Pl.ev_ite_neg (by simp) (Pl.ev_bind' mi ?_))
      simp only [Option.bind_some]
      refine Pl.ev_ite_pos (by simp; omega) ?_
      -- where the other variables differ, the expression has no variable
      have hend : ∀ o : List Int, o.length = 4 → o.all fine = true → (∀ i : Nat, i < 4 → (i : Int) ∈ varsL e → rd o (i : Int) = rd vars (i : Int)) → Ev (fun k => laws_FnEvals.l0 k e vars o ((4 : Nat) : Int) (evalC e vars).1 (evalC e vars).2 (typeC e).1 (typeC e).2 (exprC e) l) true := by
        intro o ho hof hsame
        refine Ev.step (fun k => by rw [laws_FnEvals.l0]) (Pl.ev_ite_neg (by omega) ?_)
        have vo : varsC o = 0 := by
          unfold varsC
          rw [if_pos ho, hof]
          rfl
        have ee := evals_other hf hv vo hsame
        have eo := implEvalExpr_ev e o (by omega)
        rw [ee] at eo
        have vi := implVars_ev vars (by omega)
        simp only [← varsC.eq_def] at vi
        -- the value
        have val := evals_val ht hv
        obtain ⟨q1, q2, q3⟩ := val
        have selfb : ((evalC e vars).1 == (evalC e vars).1 && ((evalC e vars).2 == (evalC e vars).2)) = true := by simp
        refine Ev.step (fun k => by rw [laws_FnEvals.j2]) (Pl.ev_ite_neg (by simp) (Pl.ev_bind' eo (Pl.ev_ite_pos q1 (Pl.ev_ite_pos selfb (Pl.ev_ite_pos q2 (Pl.ev_ite_pos ht (Pl.ev_ite_pos hx (Pl.ev_bind' vi (Pl.ev_ite_pos hv (Pl.ev_bind' es (Pl.ev_ite_pos selfb ?_)))))))))))
        by_cases h2 : (typeC e).2 = 2
        · refine Pl.ev_ite_pos h2 ?_
          by_cases z : (evalC e vars).2 = 0
          · exact Pl.ev_ite_pos z (Ev.now _)
          · refine Pl.ev_ite_neg z ?_
            have : (evalC e vars).2 = 1 := by rcases q3 h2 with h | h; exact absurd h z; exact h
            rw [this]
            exact Ev.now _
        · exact Pl.ev_ite_neg h2 (Ev.now _)
      have main := evals_loop hle hl hf hend
      have := main 4 0 rfl (by omega) ([] ++ vars) (by simpa using v4) (by simpa using vf) (fun i _ _ => by simp)
      simpa using this
    by_cases h0 : (evalC e vars).1 = 0
    · exact Pl.ev_ite_pos h0 (good (.inl h0))
    · refine Pl.ev_ite_neg h0 ?_
      by_cases h8 : (evalC e vars).1 = 8
      · have : ((evalC e vars).1 != 8) = false := by rw [h8]; rfl
        rw [this]
        exact good (.inr h8)
      · have : ((evalC e vars).1 != 8) = true := bne_iff_ne.2 h8
        rw [this]
        exact bad
end Go.Proofs.Ytmppibhdnajjjaa.Pure
