/- FnExactParseExpr: for every text the program's ParseExpr answers what the reference's answers, and its answers are its own; no condition beyond the row's own. -/
import Derived.Test.YtmppibhdnajjjaaDoorUAll
import Derived.Test.YtmppibhdnajjjaaDoorP4
import Derived.Test.YtmppibhdnajjjaaDoorP9
import Derived.Test.YtmppibhdnajjjaaDoorP11
namespace Go.Proofs.YtmppibhdnajjjaaDoor.Pure
set_option linter.unusedVariables false
set_option linter.unusedSimpArgs false
open Go.RowKit Go.Proofs.YtmppibhdnajjjaaDoor Go.Proofs.YtmppibhdnajjjaaDoor.P Go.Proofs.YtmppibhdnajjjaaDoorW.PrintWords Go.Proofs.YtmppibhdnajjjaaDoorW.PrintLast
theorem parse_both (a : ByteArray) : ∃ (c : Int) (e : List Nd), e.length ≤ 16 ∧ Ev (fun k => spec_ParseExpr.f k a) (c, e) ∧ Ev (fun k => impl_ParseExpr.f k a) (c, e) := by
  by_cases h2 : (a.size : Int) > 200
  · refine ⟨2, [], by simp, ?_, ?_⟩
    · unfold spec_ParseExpr.f
      exact Pl.ev_ite_pos h2 (Ev.now _)
    · unfold impl_ParseExpr.f
      exact Pl.ev_ite_pos h2 (Ev.now _)
  · have hs : a.size ≤ 200 := by omega
    have ea := bs_of a
    have la : a.data.toList.length = a.size := Pl.size_toList a
    by_cases acc : ∃ T : Ex, T.okT ∧ exprC (T.nodes 0) = 0 ∧ T.txt = a.data.toList
    · obtain ⟨T, ht, h0, hx⟩ := acc
      obtain ⟨⟨n1, n16⟩, hf⟩ := exprC_len h0
      have hn := Ex.nodes_len T 0
      have lt : T.txt.length = a.size := by rw [hx, la]
      have none : noDig [] := fun c r h => absurd h (by simp)
      have p := part_tree hs T ht 0 [] [] (by rw [List.drop_zero, hx, List.append_nil]) none (by simp; omega)
      have q := node_tree T ht [] [] none (by simp; omega) (by simp; omega)
      rw [List.append_nil, hx, ← ea] at q
      have F := spec3Fault_ev (T.nodes 0) (by omega)
      rw [h0] at F
      have G := implExpr_ev (T.nodes 0)
      rw [h0] at G
      have X := implText_ev n1 n16 hf
      rw [textE_tree T ht, hx] at X
      refine ⟨0, T.nodes 0, n16, ?_, ?_⟩
      · unfold spec_ParseExpr.f
        refine Pl.ev_ite_neg h2 (Pl.ev_bind' (a := (T.nodes 0, true)) ?_ (Pl.ev_ite_pos rfl (Ev.now _)))
        unfold spec_l3Parse.f
        refine Pl.ev_bind' p (Pl.ev_ite_pos rfl (Pl.ev_ite_pos ?_ (Pl.ev_bind' F (Ev.now _))))
        show ((0 + T.txt.length : Nat) : Int) = (a.size : Int)
        omega
      · unfold impl_ParseExpr.f
        refine Pl.ev_ite_neg h2 (Pl.ev_bind' q (Pl.ev_ite_neg (by simp) (Pl.ev_bind' G (Pl.ev_ite_pos rfl (Pl.ev_bind' X (Pl.ev_ite_pos ?_ (Ev.now _)))))))
        rw [← ea]
    · refine ⟨5, [], by simp, ?_, ?_⟩
      · unfold spec_ParseExpr.f
        obtain ⟨pl, ok, b, ex, p1, p2, p3, p4, p5⟩ := part_ev hs a.size 0 [] (by omega) (by omega) (by simp; omega)
        refine Pl.ev_ite_neg h2 (Pl.ev_bind' (a := (ex, false)) ?_ (Pl.ev_ite_neg (by simp) (Ev.now _)))
        unfold spec_l3Parse.f
        cases ok with
        | false => exact Pl.ev_bind' p1 (Pl.ev_ite_neg (by simp) (Ev.now _))
        | true =>
          by_cases hb : (b : Int) = (a.size : Int)
          · obtain ⟨z1, T, t1, t2, t3, t4⟩ := p5 rfl
            have hd : a.data.toList.drop b = [] := List.drop_eq_nil_of_le (by omega)
            rw [List.drop_zero, hd, List.append_nil] at t4
            have t2' : ex = T.nodes 0 := t2
            have hne : exprC ex ≠ 0 := fun h => acc ⟨T, t1, by rw [← t2']; exact h, t4.symm⟩
            have F := spec3Fault_ev ex (by simp at p4; omega)
            have e0 : (exprC ex == 0) = false := beq_eq_false_iff_ne.2 hne
            refine Pl.ev_bind' p1 (Pl.ev_ite_pos rfl (Pl.ev_ite_pos hb (Pl.ev_bind' F ?_)))
            rw [e0]
            exact Ev.now _
          · exact Pl.ev_bind' p1 (Pl.ev_ite_pos rfl (Pl.ev_ite_neg hb (Ev.now _)))
      · unfold impl_ParseExpr.f
        obtain ⟨pl, l', nd, fl, q1, q2, q3⟩ := node_any a.size a.data.toList [] false (by omega) (by simp; omega)
        rw [← ea] at q1
        cases fl with
        | true => exact Pl.ev_ite_neg h2 (Pl.ev_bind' q1 (Pl.ev_ite_pos rfl (Ev.now _)))
        | false =>
          refine Pl.ev_ite_neg h2 (Pl.ev_bind' q1 (Pl.ev_ite_neg (by simp) (Pl.ev_bind' (implExpr_ev nd) ?_)))
          by_cases h0 : exprC nd = 0
          · obtain ⟨⟨n1, n16⟩, hf⟩ := exprC_len h0
            obtain ⟨T, t1, t2⟩ := tree_of h0
            have X := implText_ev n1 n16 hf
            refine Pl.ev_ite_pos h0 (Pl.ev_bind' X (Pl.ev_ite_neg (fun h => acc ⟨T, t1, by rw [← t2]; exact h0, ?_⟩) (Ev.now _)))
            rw [Pl.toList_data, Pl.toList_data, bs_data, t2, textE_tree T t1] at h
            exact h
          · exact Pl.ev_ite_neg h0 (Ev.now _)
theorem FnExactParseExpr : laws_FnExactParseExpr.Pure := by
  intro a ha
  refine Ev.rounds (g := fun k => laws_FnExactParseExpr.f k a) ?_
  unfold laws_FnExactParseExpr.f
  by_cases big : (a.size : Int) > 1048576
  · exact Pl.ev_ite_pos big (Ev.now _)
  · obtain ⟨c, e, hl, s, m⟩ := parse_both a
    have eq : Ev (fun k => laws_eqExprResult.f k c e c e) true := by
      unfold laws_eqExprResult.f
      exact Pl.ev_ite_pos rfl (Pl.ev_bind' (eqNodeS_ev e (by omega)) (Pl.ev_ite_pos rfl (Ev.now _)))
    have mk := markNodes_ev c e (by omega)
    have hd := heldNodes_ev c e.length (by omega)
    exact Pl.ev_ite_neg big (Pl.ev_bind' s (Pl.ev_bind' m (Pl.ev_bind' eq (Pl.ev_ite_pos rfl (Pl.ev_bind' mk (Pl.ev_bind' hd (Pl.ev_ite_neg (by omega) (Pl.ev_ite_pos rfl (Pl.ev_bind' m (Pl.ev_bind' eq (Pl.ev_ite_pos rfl (Pl.ev_bind' hd (Pl.ev_ite_neg (by omega) (Pl.ev_ite_pos rfl (Ev.now _)))))))))))))))
end Go.Proofs.YtmppibhdnajjjaaDoor.Pure
