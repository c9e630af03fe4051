/- The variables of an expression: the program and the reference say the same. No condition. -/
import Derived.Test.YtmppibhdnajjjaaUExpr3
import Derived.Test.YtmppibhdnajjjaaUSort
import Derived.Test.YtmppibhdnajjjaaV6
import Derived.Test.YtmppibhdnajjjaaV5
namespace Go.Proofs.Ytmppibhdnajjjaa.V
set_option linter.unusedVariables false
set_option linter.unusedSimpArgs false
open Go.RowKit Go.Proofs.Ytmppibhdnajjjaa Go.Proofs.YtmppibhdnajjjaaW.PrintWords Go.Proofs.YtmppibhdnajjjaaW.PrintLast
theorem exprC_ok {e : List Nd} (h : exprC e = 0) : (1 ≤ e.length ∧ e.length ≤ 16) ∧ fineN e ∧ (∀ j, j < e.length → Pl.ok (kK e) (kL e) (kR e) j) ∧ Pl.sz (kK e) (kL e) (kR e) (e.length - 1) = e.length := by
  unfold exprC at h
  by_cases hl : 1 ≤ e.length ∧ e.length ≤ 16
  · rw [if_pos hl] at h
    by_cases hn : nodesC 0 e = 0
    · rw [if_pos hn] at h
      unfold shapeC at h
      by_cases hs : (∀ j, j < e.length → Pl.ok (kK e) (kL e) (kR e) j) ∧ Pl.sz (kK e) (kL e) (kR e) (e.length - 1) = e.length
      · exact ⟨hl, (nodesC_fine e).1 hn, hs.1, hs.2⟩
      · rw [if_neg hs] at h; exact absurd h (by omega)
    · rw [if_neg hn] at h; exact absurd h hn
  · rw [if_neg hl] at h; exact absurd h (by omega)
/-- What variables a list of nodes has, node by node. -/
def varsL (l : List Nd) : List Int := (l.filter fun x => decide (x.f0 = 2)).map fun x => x.f1
theorem varsL_cons (x : Nd) (l : List Nd) : varsL (x :: l) = (if x.f0 = 2 then [x.f1] else []) ++ varsL l := by
  unfold varsL
  by_cases h : x.f0 = 2
  · rw [List.filter_cons_of_pos (by simpa using h), if_pos h]
    rfl
  · rw [List.filter_cons_of_neg (by simpa using h), if_neg h]
    rfl
theorem varsL_app (l m : List Nd) : varsL (l ++ m) = varsL l ++ varsL m := by
  unfold varsL
  rw [List.filter_append, List.map_append]
theorem varsL_succ (e : List Nd) (i : Nat) (h : i < e.length) : varsL (e.take (i + 1)) = varsL (e.take i) ++ (if e[i].f0 = 2 then [e[i].f1] else []) := by
  rw [List.take_add_one, List.getElem?_eq_getElem h, varsL_app, Option.toList_some, varsL_cons]
  unfold varsL
  simp
theorem varsL_len_le (l : List Nd) : (varsL l).length ≤ l.length := by
  unfold varsL
  rw [List.length_map]
  exact List.length_filter_le _ _
theorem seg_vars {K : Nat → Int} {L R : Nat → Nat} {n : Nat} (ha : Pl.ahead K L R n) : ∀ d i, i ≤ d → i < n → 2 * ((Pl.seg K L R i).filter fun j => decide (K j = 2)).length ≤ (Pl.seg K L R i).length + 1 := by
  intro d
  induction d with
  | zero =>
    intro i hd hi
    have h := ha i hi
    have h1 : ¬ 2 < K i := fun h' => by have := h.1 h'; omega
    have h2 : ¬ Pl.two (K i) = true := fun h' => h1 (Pl.two_inner h')
    rw [Pl.seg_eq ha hi, if_neg h1, if_neg h2]
    have := List.length_filter_le (fun j => decide (K j = 2)) [i]
    simp at this ⊢
    omega
  | succ d ih =>
    intro i hd hi
    have h := ha i hi
    rw [Pl.seg_eq ha hi]
    by_cases h1 : 2 < K i
    · have hL := h.1 h1
      have iL := ih (L i) (by omega) (by omega)
      have hK : decide (K i = 2) = false := decide_eq_false (by omega)
      by_cases h2 : Pl.two (K i) = true
      · have hR := h.2 h2
        have iR := ih (R i) (by omega) (by omega)
        rw [if_pos h1, if_pos h2]
        simp only [List.filter_append, List.length_append, List.filter_cons, hK, List.filter_nil, List.length_cons, List.length_nil]
        simp
        omega
      · rw [if_pos h1, if_neg h2]
        simp only [List.filter_append, List.length_append, List.filter_cons, hK, List.filter_nil, List.length_cons, List.length_nil]
        simp
        omega
    · have h2 : ¬ Pl.two (K i) = true := fun h' => h1 (Pl.two_inner h')
      rw [if_neg h1, if_neg h2]
      have := List.length_filter_le (fun j => decide (K j = 2)) [i]
      simp at this ⊢
      omega
theorem filter_range (e : List Nd) : (varsL e).length = ((List.range e.length).filter fun j => decide (kK e j = 2)).length := by
  have h : e = (List.range e.length).map fun j => e.getD j z70 := by
    apply List.ext_getElem
    · simp
    · intro j h1 h2
      simp [List.getD_eq_getElem?_getD, List.getElem?_eq_getElem h1]
  unfold varsL
  rw [List.length_map]
  conv => lhs; rw [h]
  rw [List.filter_map, List.length_map]
  rfl
theorem varsL_len {e : List Nd} (h : exprC e = 0) : (varsL e).length ≤ 8 := by
  obtain ⟨⟨h1, h16⟩, hf, hok, hs⟩ := exprC_ok h
  have ha := fineN_ahead hf
  have hk := fineN_le hf
  obtain ⟨_, e1⟩ := Pl.seg_range ha (e.length - 1) (by omega) (fun j hj => ⟨hk j (by omega), hok j (by omega)⟩)
  rw [hs, show e.length - 1 + 1 - e.length = 0 from by omega] at e1
  have c := seg_vars ha (e.length - 1) (e.length - 1) (Nat.le_refl _) (by omega)
  rw [e1, ← List.range_eq_range', ← filter_range, List.length_range] at c
  omega
theorem varsL_in {e : List Nd} (hf : fineN e) (v : Int) (hv : v ∈ varsL e) : 0 ≤ v ∧ v ≤ 3 := by
  unfold varsL at hv
  obtain ⟨x, hx, rfl⟩ := List.mem_map.1 hv
  obtain ⟨hx, h2⟩ := List.mem_filter.1 hx
  obtain ⟨i, hi, rfl⟩ := List.getElem_of_mem hx
  exact (nodeC_0 (hf i hi)).2.2.2.1 (of_decide_eq_true h2)
def specL (e : List Nd) (n : Nat) : List Int := ((List.range n).filter fun (v : Nat) => decide ((v : Int) ∈ varsL e)).map fun (v : Nat) => (v : Int)
theorem specL_succ (e : List Nd) (n : Nat) : specL e (n + 1) = specL e n ++ (if (n : Int) ∈ varsL e then [(n : Int)] else []) := by
  unfold specL
  rw [List.range_succ, List.filter_append, List.map_append]
  congr 1
  by_cases h : (n : Int) ∈ varsL e
  · simp [h]
  · simp [h]
theorem specL_len (e : List Nd) (n : Nat) : (specL e n).length ≤ n := by
  unfold specL
  rw [List.length_map]
  have := List.length_filter_le (fun (v : Nat) => decide ((v : Int) ∈ varsL e)) (List.range n)
  simpa using this
theorem specL_strict (e : List Nd) (n : Nat) : (specL e n).Pairwise (· < ·) := by
  unfold specL
  rw [List.pairwise_map, List.pairwise_filter]
  refine List.pairwise_lt_range.imp ?_
  intro i j hij _ _
  omega
theorem specL_mem {e : List Nd} (hf : fineN e) (v : Int) : v ∈ specL e 4 ↔ v ∈ varsL e := by
  unfold specL
  rw [List.mem_map]
  constructor
  · rintro ⟨n, hn, rfl⟩
    exact of_decide_eq_true (List.mem_filter.1 hn).2
  · intro hv
    obtain ⟨h0, h3⟩ := varsL_in hf v hv
    have e1 : ((v.toNat : Nat) : Int) = v := by omega
    exact ⟨v.toNat, List.mem_filter.2 ⟨List.mem_range.2 (by omega), decide_eq_true (by rw [e1]; exact hv)⟩, e1⟩
theorem specInner (e : List Nd) (hl : e.length ≤ 16) (v : Nat) (hv : v < 4) (c : Int) (acc : List Int) (ha : acc.length ≤ 4) (R : Int × List Int) : ∀ d i, e.length - i = d → i ≤ e.length →
    ((v : Int) ∈ varsL (e.drop i) → Ev (fun k => spec_VarsIn.l0 k e ((v : Int) + 1) c (acc ++ [(v : Int)])) R) → (¬ (v : Int) ∈ varsL (e.drop i) → Ev (fun k => spec_VarsIn.l0 k e ((v : Int) + 1) c acc) R) → Ev (fun k => spec_VarsIn.l1 k e (v : Int) (i : Int) c acc) R := by
  have wv : wrap64 ((v : Int) + 1) = (v : Int) + 1 := Pl.wrap_in (by omega) (by omega)
  intro d
  induction d with
  | zero =>
    intro i hd hi _ h2
    obtain rfl : i = e.length := by omega
    refine Ev.step (fun k => by rw [spec_VarsIn.l1]) (Pl.ev_ite_neg (by omega) ?_)
    rw [wv]
    exact h2 (by rw [List.drop_length]; simp [varsL])
  | succ d ih =>
    intro i hd hi h1 h2
    have hi' : i < e.length := by omega
    rw [Pl.drop_get hi', varsL_cons] at h1 h2
    refine Ev.step (fun k => by rw [spec_VarsIn.l1]) ?_
    rw [rd_iNode e i hi', wv, Pl.wrap_nat (show i < 9223372036854775807 by omega)]
    refine Pl.ev_ite_pos (by omega) (Pl.ev_ite_pos (by omega) ?_)
    by_cases hk : e[i].f0 = 2
    · rw [if_pos hk] at h1 h2
      refine Pl.ev_ite_pos hk ?_
      by_cases he : e[i].f1 = (v : Int)
      · exact Pl.ev_ite_pos he (Pl.ev_ite_pos (by omega) (h1 (by rw [he]; simp)))
      · refine Pl.ev_ite_neg he ?_
        have := ih (i + 1) (by omega) (by omega) (fun h => h1 (List.mem_append_right _ h)) (fun h => h2 (fun h' => by
          rcases List.mem_append.1 h' with h' | h'
          · rw [List.mem_singleton] at h'; exact he h'.symm
          · exact h h'))
        simpa using this
    · rw [if_neg hk, List.nil_append] at h1 h2
      refine Pl.ev_ite_neg hk ?_
      have := ih (i + 1) (by omega) (by omega) h1 h2
      simpa using this
theorem specVarsIn_ev (e : List Nd) (hl : e.length ≤ 16) : Ev (fun k => spec_VarsIn.l0 k e 0 0 ([] : List Int)) (0, specL e 4) := by
  have main : ∀ d v : Nat, 4 - v = d → v ≤ 4 → Ev (fun k => spec_VarsIn.l0 k e (v : Int) 0 (specL e v)) (0, specL e 4) := by
    intro d
    induction d with
    | zero =>
      intro v hd hv
      obtain rfl : v = 4 := by omega
      exact Ev.step (fun k => by rw [spec_VarsIn.l0]) (Pl.ev_ite_neg (by omega) (Ev.now _))
    | succ d ih =>
      intro v hd hv
      refine Ev.step (fun k => by rw [spec_VarsIn.l0]) (Pl.ev_ite_pos (by omega) ?_)
      have hs := specL_succ e v
      have nx := ih (v + 1) (by omega) (by omega)
      have hle := specL_len e v
      have := specInner e hl v (by omega) 0 (specL e v) (by omega) (0, specL e 4) e.length 0 (by omega) (Nat.zero_le _) (fun h => ?_) (fun h => ?_)
      · simpa using this
      · rw [List.drop_zero] at h
        rw [if_pos h] at hs
        rw [← hs]
        simpa using nx
      · rw [List.drop_zero] at h
        rw [if_neg h, List.append_nil] at hs
        rw [← hs]
        simpa using nx
  have := main 4 0 rfl (by omega)
  simpa [specL] using this
theorem implVarsIn_ev (e : List Nd) (h : exprC e = 0) : Ev (fun k => impl_VarsIn.l0 k ([] : List Int) e (e.length : Int) 0) (0, specL e 4) := by
  obtain ⟨⟨h1, h16⟩, hf, _⟩ := exprC_ok h
  refine Pl.loop (σ := List Int) (n := e.length) (g := fun k i s => impl_VarsIn.l0 k s e (e.length : Int) i) (F := fun _ _ => ((0 : Int), specL e 4)) (fun i s => s = varsL (e.take i)) ?_ ?_ 0 [] (Nat.zero_le _) (by simp [varsL])
  · intro s hs
    rw [List.take_length] at hs
    refine Ev.step (fun k => by rw [impl_VarsIn.l0]) (Pl.ev_ite_neg (by omega) ?_)
    have hl := varsL_len h
    obtain ⟨q, q1, q2, q3, q4⟩ := sort_ev s (by rw [hs]; omega)
    refine Pl.ev_bind' q4 ?_
    have ec : slices_Compact_int64_int64.f q = some (specL e 4) := by
      unfold slices_Compact_int64_int64.f
      rw [if_pos (by rw [q1, hs]; omega)]
      congr 1
      obtain ⟨c1, c2⟩ := compact_spec q (by rw [q1]; exact q2)
      refine strict_ext _ _ c1 (specL_strict e 4) (fun v => (c2 v).trans ((q3 v).trans ?_))
      rw [hs]
      exact (specL_mem hf v).symm
    rw [ec]
    exact Ev.now _
  · intro i s hi hs ih
    have hse := varsL_succ e i hi
    have hle := varsL_len_le (e.take i)
    rw [List.length_take] at hle
    refine Ev.step (fun k => by rw [impl_VarsIn.l0]) ?_
    rw [rd_iNode e i hi, Pl.wrap_nat (show i < 9223372036854775807 by omega)]
    refine Pl.ev_ite_pos (by omega) (Pl.ev_ite_pos (by omega) (Pl.ev_ite_pos (by omega) ?_))
    by_cases hk : e[i].f0 = 2
    · rw [if_pos hk] at hse
      exact Pl.ev_ite_pos hk (Pl.ev_ite_pos (by rw [hs]; omega) (ih _ (by rw [hs, hse])))
    · rw [if_neg hk, List.append_nil] at hse
      exact Pl.ev_ite_neg hk (ih _ (by rw [hs, hse]))
theorem varsIn_ev (e : List Nd) (hl0 : e.length ≤ 1048576) : ∃ (l : List Int), l.length ≤ 1048576 ∧ Ev (fun k => spec_VarsIn.f k e) (exprC e, l) ∧ Ev (fun k => impl_VarsIn.f k e) (exprC e, l) ∧ (exprC e = 0 → l = specL e 4) := by
  by_cases h : exprC e = 0
  · obtain ⟨⟨h1, h16⟩, hf, _⟩ := exprC_ok h
    refine ⟨specL e 4, Nat.le_trans (specL_len e 4) (by omega), ?_, ?_, fun _ => rfl⟩
    · unfold spec_VarsIn.f
      rw [h]
      exact Pl.ev_bind' (h ▸ spec3Fault_ev e hl0) (Pl.ev_ite_pos rfl (specVarsIn_ev e h16))
    · unfold impl_VarsIn.f
      rw [h]
      exact Pl.ev_bind' (h ▸ implExpr_ev e) (Pl.ev_ite_pos rfl (implVarsIn_ev e h))
  · refine ⟨[], by simp, ?_, ?_, fun h' => absurd h' h⟩
    · unfold spec_VarsIn.f
      exact Pl.ev_bind' (spec3Fault_ev e hl0) (Pl.ev_ite_neg h (Ev.now _))
    · unfold impl_VarsIn.f
      exact Pl.ev_bind' (implExpr_ev e) (Pl.ev_ite_neg h (Ev.now _))
end Go.Proofs.Ytmppibhdnajjjaa.V
