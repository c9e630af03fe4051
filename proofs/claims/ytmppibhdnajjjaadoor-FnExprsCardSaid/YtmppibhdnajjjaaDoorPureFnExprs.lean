/- FnExprs: what ParseExpr reads is written back as it was read, and what ExprText writes is read back; both as the reference has it. No condition beyond the row's own. -/
import Derived.Test.YtmppibhdnajjjaaDoorUAll
import Derived.Test.YtmppibhdnajjjaaDoorP9
import Derived.Test.YtmppibhdnajjjaaDoorP11
import Derived.Test.YtmppibhdnajjjaaDoorP14
namespace Go.Proofs.YtmppibhdnajjjaaDoor.Pure
set_option linter.unusedVariables false
set_option linter.unusedSimpArgs false
open Go.RowKit Go.Proofs.YtmppibhdnajjjaaDoor Go.Proofs.YtmppibhdnajjjaaDoor.P Go.Proofs.YtmppibhdnajjjaaDoorW.PrintWords Go.Proofs.YtmppibhdnajjjaaDoorW.PrintLast
/-- A tree's text is read as the tree. -/
theorem parse_tree (a : ByteArray) (T : Ex) (ht : T.okT) (h0 : exprC (T.nodes 0) = 0) (hx : T.txt = a.data.toList) (hs : a.size ≤ 200) : Ev (fun k => spec_ParseExpr.f k a) (0, T.nodes 0) ∧ Ev (fun k => impl_ParseExpr.f k a) (0, T.nodes 0) := by
  have h2 : ¬ (a.size : Int) > 200 := by omega
  have ea := bs_of a
  have la : a.data.toList.length = a.size := Pl.size_toList a
  obtain ⟨⟨n1, n16⟩, hf⟩ := exprC_len h0
  have hn := Ex.nodes_len T 0
  have lt : T.txt.length = a.size := by rw [hx, la]
  have none : noDig [] := fun c r h => absurd h (by simp)
  have p := part_tree hs T ht 0 [] [] (by rw [List.drop_zero, hx, List.append_nil]) none (by simp; omega)
  have q := node_tree T ht [] [] none (by simp; omega) (by simp; omega)
  rw [List.append_nil, hx, ← ea] at q
  have F := spec3Fault_ev (T.nodes 0) (by omega)
  rw [h0] at F
  have G := implExpr_ev (T.nodes 0)
  rw [h0] at G
  have X := implText_ev n1 n16 hf
  rw [textE_tree T ht, hx] at X
  constructor
  · unfold spec_ParseExpr.f
    refine Pl.ev_ite_neg h2 (Pl.ev_bind' (a := (T.nodes 0, true)) ?_ (Pl.ev_ite_pos rfl (Ev.now _)))
    unfold spec_l3Parse.f
    refine Pl.ev_bind' p (Pl.ev_ite_pos rfl (Pl.ev_ite_pos ?_ (Pl.ev_bind' F (Ev.now _))))
    show ((0 + T.txt.length : Nat) : Int) = (a.size : Int)
    omega
  · unfold impl_ParseExpr.f
    refine Pl.ev_ite_neg h2 (Pl.ev_bind' q (Pl.ev_ite_neg (by simp) (Pl.ev_bind' G (Pl.ev_ite_pos rfl (Pl.ev_bind' X (Pl.ev_ite_pos ?_ (Ev.now _)))))))
    rw [← ea]
theorem parse_both (a : ByteArray) : ∃ (c : Int) (e : List Nd), Ev (fun k => spec_ParseExpr.f k a) (c, e) ∧ Ev (fun k => impl_ParseExpr.f k a) (c, e) ∧ (c = 0 → ∃ T : Ex, T.okT ∧ exprC (T.nodes 0) = 0 ∧ T.txt = a.data.toList ∧ e = T.nodes 0) := by
  by_cases h2 : (a.size : Int) > 200
  · refine ⟨2, [], ?_, ?_, fun h => by cases h⟩
    · unfold spec_ParseExpr.f
      exact Pl.ev_ite_pos h2 (Ev.now _)
    · unfold impl_ParseExpr.f
      exact Pl.ev_ite_pos h2 (Ev.now _)
  · have hs : a.size ≤ 200 := by omega
    have ea := bs_of a
    have la : a.data.toList.length = a.size := Pl.size_toList a
    by_cases acc : ∃ T : Ex, T.okT ∧ exprC (T.nodes 0) = 0 ∧ T.txt = a.data.toList
    · obtain ⟨T, ht, h0, hx⟩ := acc
      obtain ⟨p, q⟩ := parse_tree a T ht h0 hx hs
      exact ⟨0, T.nodes 0, p, q, fun _ => ⟨T, ht, h0, hx, rfl⟩⟩
    · refine ⟨5, [], ?_, ?_, fun h => by cases h⟩
      · unfold spec_ParseExpr.f
        obtain ⟨pl, ok, b, ex, p1, p2, p3, p4, p5⟩ := part_ev hs a.size 0 [] (by omega) (by omega) (by simp; omega)
        refine Pl.ev_ite_neg h2 (Pl.ev_bind' (a := (ex, false)) ?_ (Pl.ev_ite_neg (by simp) (Ev.now _)))
        unfold spec_l3Parse.f
        cases ok with
        | false => exact Pl.ev_bind' p1 (Pl.ev_ite_neg (by simp) (Ev.now _))
        | true =>
          by_cases hb : (b : Int) = (a.size : Int)
          · obtain ⟨z1, T, t1, t2, t3, t4⟩ := p5 rfl
            have hd : a.data.toList.drop b = [] := List.drop_eq_nil_of_le (by omega)
            rw [List.drop_zero, hd, List.append_nil] at t4
            have t2' : ex = T.nodes 0 := t2
            have hne : exprC ex ≠ 0 := fun h => acc ⟨T, t1, by rw [← t2']; exact h, t4.symm⟩
            have F := spec3Fault_ev ex (by simp at p4; omega)
            have e0 : (exprC ex == 0) = false := beq_eq_false_iff_ne.2 hne
            refine Pl.ev_bind' p1 (Pl.ev_ite_pos rfl (Pl.ev_ite_pos hb (Pl.ev_bind' F ?_)))
            rw [e0]
            exact Ev.now _
          · exact Pl.ev_bind' p1 (Pl.ev_ite_pos rfl (Pl.ev_ite_neg hb (Ev.now _)))
      · unfold impl_ParseExpr.f
        obtain ⟨pl, l', nd, fl, q1, q2, q3⟩ := node_any a.size a.data.toList [] false (by omega) (by simp; omega)
        rw [← ea] at q1
        cases fl with
        | true => exact Pl.ev_ite_neg h2 (Pl.ev_bind' q1 (Pl.ev_ite_pos rfl (Ev.now _)))
        | false =>
          refine Pl.ev_ite_neg h2 (Pl.ev_bind' q1 (Pl.ev_ite_neg (by simp) (Pl.ev_bind' (implExpr_ev nd) ?_)))
          by_cases h0 : exprC nd = 0
          · obtain ⟨⟨n1, n16⟩, hf⟩ := exprC_len h0
            obtain ⟨T, t1, t2⟩ := tree_of h0
            have X := implText_ev n1 n16 hf
            refine Pl.ev_ite_pos h0 (Pl.ev_bind' X (Pl.ev_ite_neg (fun h => acc ⟨T, t1, by rw [← t2]; exact h0, ?_⟩) (Ev.now _)))
            rw [Pl.toList_data, Pl.toList_data, bs_data, t2, textE_tree T t1] at h
            exact h
          · exact Pl.ev_ite_neg h0 (Ev.now _)
/-- The law's own comparison of what is read back. -/
theorem same_loop (e : List Nd) (he : e.length ≤ 1000) (c1 : Int) (tx : ByteArray) (hX : ∃ c2 : Int, Ev (fun k => spec_ExprText.f k e) (c2, tx)) : ∀ i, i ≤ e.length → Ev (fun k => laws_FnExprs.l0 k e (i : Int) c1 tx 0 e) true := by
  obtain ⟨c2, hX⟩ := hX
  refine Pl.loop0 (n := e.length) (g := fun k i => laws_FnExprs.l0 k e i c1 tx 0 e) (F := fun _ => true) ?_ (fun i hi ih => ?_)
  · refine Ev.step (fun k => by rw [laws_FnExprs.l0]) ?_
    refine Pl.ev_ite_neg (by omega) (Pl.ev_bind' hX (Pl.ev_to (Ev.now _) ?_))
    exact beq_self_eq_true _
  · refine Ev.step (fun k => by rw [laws_FnExprs.l0, Pl.wrap_nat (show i < 9223372036854775807 by omega)]) ?_
    refine Pl.ev_ite_pos (by omega) (Pl.ev_ite_pos (by omega) (Pl.ev_ite_pos (by omega) (Pl.ev_ite_neg (by simp) ih)))
theorem second (l0 : List Int) (hc : codeOk l0) : Ev (fun k => laws_FnExprs.j0 k l0 false) true := by
  obtain ⟨e, a', hd, h17, _, _⟩ := bent3_ev hc 0 (by omega) (by omega)
  obtain ⟨s, m⟩ := exprText_ev e (by omega)
  have hdr : Ev (fun k => spec_DrawExprText.f k l0) e := by
    unfold spec_DrawExprText.f spec_l1Source.f
    simp only [Option.bind_some]
    exact Pl.ev_bind' hd (Ev.now _)
  refine Ev.step (fun k => by rw [laws_FnExprs.j0]) (Pl.ev_ite_neg (by simp) (Pl.ev_bind' hdr (Pl.ev_bind' m ?_)))
  by_cases h0 : exprC e = 0
  · have hC : exprTextC e = (0, bs (textE e)) := by unfold exprTextC; exact if_pos h0
    obtain ⟨T, t1, t2⟩ := tree_of h0
    have h5 := txt_len T t1
    have hn := Ex.nodes_len T 0
    obtain ⟨⟨n1, n16⟩, hf⟩ := exprC_len h0
    have hel : e.length = T.size := by rw [t2, hn]
    have htx : textE e = T.txt := by rw [t2, textE_tree T t1]
    rw [hC, htx]
    obtain ⟨_, q⟩ := parse_tree (bs T.txt) T t1 (by rw [← t2]; exact h0) (by rw [bs_data]) (by rw [bs_size]; omega)
    rw [← t2] at q
    refine Pl.ev_ite_pos rfl (Pl.ev_bind' q (Pl.ev_ite_pos rfl ?_))
    refine Ev.step (fun k => by rw [laws_FnExprs.j1]) (Pl.ev_ite_neg ?_ ?_)
    · show ¬ ((e.length : Int) != (e.length : Int)) = true
      simp
    · refine same_loop e (by omega) _ _ ⟨0, ?_⟩ 0 (Nat.zero_le _)
      rw [hC, htx] at s
      exact s
  · have hC : exprTextC e = (exprC e, (⟨#[]⟩ : ByteArray)) := by unfold exprTextC; exact if_neg h0
    rw [hC] at s ⊢
    refine Pl.ev_ite_neg h0 (Pl.ev_bind' s (Pl.ev_ite_pos rfl (Pl.ev_bind' (implExpr_ev e) (Pl.ev_to (Ev.now _) ?_))))
    exact beq_self_eq_true _
theorem FnExprs : laws_FnExprs.Pure := by
  intro l0 _ _ hw
  refine Ev.rounds (g := fun k => laws_FnExprs.f k l0) ?_
  unfold laws_FnExprs.f laws_lwBig.f
  simp only [Option.bind_some]
  by_cases hb : (l0.length : Int) > 1048576
  · exact Pl.ev_ite_pos (decide_eq_true hb) (Ev.now _)
  · refine Pl.ev_ite_neg (by simpa using hb) ?_
    have hc := codeOk_of hb hw
    obtain ⟨t, hd⟩ := drawText_ev hc
    obtain ⟨c, e, s, m, h⟩ := parse_both t
    refine Pl.ev_bind' hd (Pl.ev_bind' m ?_)
    by_cases h0 : c = 0
    · obtain ⟨T, t1, t2, t3, t4⟩ := h h0
      have hn := Ex.nodes_len T 0
      obtain ⟨⟨n1, n16⟩, hf⟩ := exprC_len t2
      obtain ⟨_, x⟩ := exprText_ev e (by rw [t4]; omega)
      have hC : exprTextC e = (0, bs (textE e)) := by unfold exprTextC; exact if_pos (by rw [t4]; exact t2)
      rw [hC, t4, textE_tree T t1, ← t4] at x
      refine Pl.ev_ite_pos h0 (Pl.ev_bind' x (Pl.ev_ite_pos ?_ (second l0 hc)))
      rw [Pl.toList_data, Pl.toList_data, bs_data, t3]
    · refine Pl.ev_ite_neg h0 (Pl.ev_bind' s ?_)
      have e0 : (c != c) = false := by simp
      simp only [e0]
      exact second l0 hc
end Go.Proofs.YtmppibhdnajjjaaDoor.Pure
