-- Written by a program of this session's own (xp.py) for this seat.
import Derived.Test.YtmppibhdnajjjaaVZ
import Derived.Test.YtmppibhdnajjjaaV0
import Derived.Test.YtmppibhdnajjjaaV2
namespace Go.Proofs.Ytmppibhdnajjjaa.V
open Go.RowKit Go.Proofs.YtmppibhdnajjjaaW.PrintWords Go.Proofs.YtmppibhdnajjjaaW.PrintLast Go.Proofs.YtmppibhdnajjjaaW.PrintMore
attribute [local go_sem] Instr.field asAgg
attribute [local go_sem] max2_int min2_int max_two min_two max_three min_three max_four min_four   -- for this text's walks alone
set_option linter.unusedVariables false
set_option linter.unusedSimpArgs false

/-! ### impl_reckon: function 80 -/
def impl_reckon.f (a0 : Int) (a1 : Int) (a2 : Int) : Option (Int × Bool) := if a0 = 3 then (some (wrap64 (a1 + a2), true)) else (if a0 = 4 then (some (wrap64 (a1 - a2), true)) else (if a0 = 5 then (some (wrap64 (a1 * a2), true)) else (if a0 = 6 then (if a2 = 0 then (some (0, false)) else (some (wrap64 (Int.tdiv a1 a2), true))) else (if a0 = 7 then ((impl_codeIf.f (decide (a1 < a2)) 1).bind fun t514 => (some (t514, true))) else (if a0 = 8 then ((impl_codeIf.f (a1 == a2) 1).bind fun t515 => (some (t515, true))) else (some (Go.bits .and .i64 a1 a2, true)))))))
set_option maxHeartbeats 8000000 in
set_option maxRecDepth 100000 in
theorem impl_reckon.calls (a0 : Int) (a1 : Int) (a2 : Int) (r1 : Int) (r2 : Bool) (w : World) (h : impl_reckon.f a0 a1 a2 = some (r1, r2)) :
    Calls Try.prog 80 #[.int .i64 a0, .int .i64 a1, .int .i64 a2] w fun e w' => e = .returned (.tuple #[.int .i64 r1, .bool r2]) ∧ Drawn0 w w' := by
 have H : (if a0 = 3 then (some (wrap64 (a1 + a2), true)) else (if a0 = 4 then (some (wrap64 (a1 - a2), true)) else (if a0 = 5 then (some (wrap64 (a1 * a2), true)) else (if a0 = 6 then (if a2 = 0 then (some (0, false)) else (some (wrap64 (Int.tdiv a1 a2), true))) else (if a0 = 7 then ((impl_codeIf.f (decide (a1 < a2)) 1).bind fun t514 => (some (t514, true))) else (if a0 = 8 then ((impl_codeIf.f (a1 == a2) 1).bind fun t515 => (some (t515, true))) else (some (Go.bits .and .i64 a1 a2, true)))))))) = some (r1, r2) := h; clear h; by_cases cx0 : a0 = 3; rw [if_pos cx0] at H; have cx0b0 : (a0 == 3) = true := beq_iff_eq.mpr cx0; have cx0b1 : (a0 != 3) = false := bne_eq_false_iff_eq.mpr cx0; clear cx0; simp only [Option.some.injEq, Prod.mk.injEq] at H; obtain ⟨rfl, rfl⟩ := H; have m0_0 := t_; rotate_left; rw [if_neg cx0] at H; have cx0b0 : (a0 == 3) = false := beq_eq_false_iff_ne.mpr cx0; have cx0b1 : (a0 != 3) = true := bne_iff_ne.mpr cx0; by_cases cx1 : a0 = 4; rw [if_pos cx1] at H; have cx1b0 : (a0 == 4) = true := beq_iff_eq.mpr cx1; have cx1b1 : (a0 != 4) = false := bne_eq_false_iff_eq.mpr cx1; clear cx1; simp only [Option.some.injEq, Prod.mk.injEq] at H; obtain ⟨rfl, rfl⟩ := H; have m0_0 := t_; rotate_left; rw [if_neg cx1] at H; have cx1b0 : (a0 == 4) = false := beq_eq_false_iff_ne.mpr cx1; have cx1b1 : (a0 != 4) = true := bne_iff_ne.mpr cx1; by_cases cx2 : a0 = 5; rw [if_pos cx2] at H; have cx2b0 : (a0 == 5) = true := beq_iff_eq.mpr cx2; have cx2b1 : (a0 != 5) = false := bne_eq_false_iff_eq.mpr cx2; clear cx2; simp only [Option.some.injEq, Prod.mk.injEq] at H; obtain ⟨rfl, rfl⟩ := H; have m0_0 := t_; rotate_left; rw [if_neg cx2] at H; have cx2b0 : (a0 == 5) = false := beq_eq_false_iff_ne.mpr cx2; have cx2b1 : (a0 != 5) = true := bne_iff_ne.mpr cx2; by_cases cx3 : a0 = 6; rw [if_pos cx3] at H; have cx3b0 : (a0 == 6) = true := beq_iff_eq.mpr cx3; have cx3b1 : (a0 != 6) = false := bne_eq_false_iff_eq.mpr cx3; clear cx3; by_cases cx4 : a2 = 0; rw [if_pos cx4] at H; have cx4b0 : (a2 == 0) = true := beq_iff_eq.mpr cx4; have cx4b1 : (a2 != 0) = false := bne_eq_false_iff_eq.mpr cx4; clear cx4; simp only [Option.some.injEq, Prod.mk.injEq] at H; obtain ⟨rfl, rfl⟩ := H; have m0_0 := t_; rotate_left; rw [if_neg cx4] at H; have cx4b0 : (a2 == 0) = false := beq_eq_false_iff_ne.mpr cx4; have cx4b1 : (a2 != 0) = true := bne_iff_ne.mpr cx4; simp only [Option.some.injEq, Prod.mk.injEq] at H; obtain ⟨rfl, rfl⟩ := H; have m0_0 := t_; rotate_left; rw [if_neg cx3] at H; have cx3b0 : (a0 == 6) = false := beq_eq_false_iff_ne.mpr cx3; have cx3b1 : (a0 != 6) = true := bne_iff_ne.mpr cx3; by_cases cx4 : a0 = 7; rw [if_pos cx4] at H; have cx4b0 : (a0 == 7) = true := beq_iff_eq.mpr cx4; have cx4b1 : (a0 != 7) = false := bne_eq_false_iff_eq.mpr cx4; clear cx4; replace H := Option.bind_eq_some_iff.mp H; obtain ⟨tx5, Ay5, H⟩ := H; have Ax5 := a_ Ay5; clear Ay5; simp only [Option.some.injEq, Prod.mk.injEq] at H
 obtain ⟨rfl, rfl⟩ := H; have m0_1 := t_; have m0_2 := t_; rotate_left; rw [if_neg cx4] at H; have cx4b0 : (a0 == 7) = false := beq_eq_false_iff_ne.mpr cx4; have cx4b1 : (a0 != 7) = true := bne_iff_ne.mpr cx4; by_cases cx5 : a0 = 8; rw [if_pos cx5] at H; have cx5b0 : (a0 == 8) = true := beq_iff_eq.mpr cx5; have cx5b1 : (a0 != 8) = false := bne_eq_false_iff_eq.mpr cx5; clear cx5; replace H := Option.bind_eq_some_iff.mp H; obtain ⟨tx6, Ay6, H⟩ := H; have Ax6 := a_ Ay6; clear Ay6; simp only [Option.some.injEq, Prod.mk.injEq] at H; obtain ⟨rfl, rfl⟩ := H; have m0_1 := t_; have m0_3 := t_; rotate_left; rw [if_neg cx5] at H; have cx5b0 : (a0 == 8) = false := beq_eq_false_iff_ne.mpr cx5; have cx5b1 : (a0 != 8) = true := bne_iff_ne.mpr cx5; simp only [Option.some.injEq, Prod.mk.injEq] at H; obtain ⟨rfl, rfl⟩ := H; have m0_0 := t_; rotate_left
 all_goals (
  go_enter Try.func80, Try.ntmps80
  first
  | fail_if_success clear m0_0
  |(clear m0_0; go_wp2
    go_ret2
    exact ⟨y3_, y17_⟩)
  first
  | fail_if_success clear m0_1
  |(clear m0_1; go_wp2_with (first | (have mkq_ := m0_2; clear mkq_; (with_reducible refine gate_callee (f := 67) rfl ?_); refine gc_ 67 36 Try.func67 #[.bool (decide (a1 < a2)), .int .i64 1] ?_; (with_reducible refine (impl_codeIf.calls (decide (a1 < a2)) 1 tx5 _ Ax5.out).mono ?_); rintro e w' ⟨rfl, ⟨nd, rfl⟩⟩; refine ⟨_, rfl, ?_⟩) | (have mkq_ := m0_3; clear mkq_; (with_reducible refine gate_callee (f := 67) rfl ?_); refine gc_ 67 42 Try.func67 #[.bool (a1 == a2), .int .i64 1] ?_; (with_reducible refine (impl_codeIf.calls (a1 == a2) 1 tx6 _ Ax6.out).mono ?_); rintro e w' ⟨rfl, ⟨nd, rfl⟩⟩; refine ⟨_, rfl, ?_⟩))
    go_ret2
    exact ⟨y3_, y17_⟩))

end Go.Proofs.Ytmppibhdnajjjaa.V
