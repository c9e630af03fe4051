-- Written by a program of this session's own (xp.py) for this seat.
import Derived.Test.YtjbcpghpafacaaaIZ
import Derived.Test.YtjbcpghpafacaaaI0
import Derived.Test.YtjbcpghpafacaaaI5
namespace Go.Proofs.Ytjbcpghpafacaaa.I
open Go.RowKit Go.Proofs.YtjbcpghpafacaaaW.PrintWords Go.Proofs.YtjbcpghpafacaaaW.PrintLast Go.Proofs.YtjbcpghpafacaaaW.PrintMore
attribute [local go_sem] Instr.field asAgg
attribute [local go_sem] max2_int min2_int max_two min_two max_three min_three max_four min_four   -- for this text's walks alone
set_option linter.unusedVariables false
set_option linter.unusedSimpArgs false

/-! ### spec_l3Node: function 58 -/
mutual
def spec_l3Node.j0 : Nat → S74 → Int → Bool → Bool → Option (Int)
  | 0, _, _, _, _ => none
  | k + 1, x0, x1, x5, x56 => if x56 = true then (some 1) else (if ((rd_T74 [x0] 0).f0) = 1 then ((spec_l1In.f ((rd_T74 [x0] 0).f1) 0 9999).bind fun t121 => (if t121 = true then (if ((rd_T74 [x0] 0).f0) = 2 then ((spec_l1In.f ((rd_T74 [x0] 0).f1) 0 3).bind fun t122 => (spec_l3Node.j1 k x0 x1 x5 (!t122))) else (spec_l3Node.j1 k x0 x1 x5 false)) else (spec_l3Node.j1 k x0 x1 x5 true))) else (if ((rd_T74 [x0] 0).f0) = 2 then ((spec_l1In.f ((rd_T74 [x0] 0).f1) 0 3).bind fun t123 => (spec_l3Node.j1 k x0 x1 x5 (!t123))) else (spec_l3Node.j1 k x0 x1 x5 false)))
def spec_l3Node.j1 : Nat → S74 → Int → Bool → Bool → Option (Int)
  | 0, _, _, _, _ => none
  | k + 1, x0, x1, x5, x84 => if x84 = true then (some 3) else (if x5 = true then ((spec_l3Two.f ((rd_T74 [x0] 0).f0)).bind fun t125 => (if t125 = true then ((spec_l1In.f ((rd_T74 [x0] 0).f3) 0 (wrap64 (x1 - 1))).bind fun t126 => (if t126 = true then (some 0) else (some 3))) else (some 0))) else ((spec_l1In.f ((rd_T74 [x0] 0).f2) 0 (wrap64 (x1 - 1))).bind fun t128 => (if t128 = true then ((spec_l3Two.f ((rd_T74 [x0] 0).f0)).bind fun t129 => (if t129 = true then ((spec_l1In.f ((rd_T74 [x0] 0).f3) 0 (wrap64 (x1 - 1))).bind fun t130 => (if t130 = true then (some 0) else (some 3))) else (some 0))) else (some 3))))
end
def spec_l3Node.f (k : Nat) (a0 : S74) (a1 : Int) : Option (Int) := (spec_l1In.f ((rd_T74 [a0] 0).f0) 1 10).bind fun t119 => (if t119 = true then (if ((rd_T74 [a0] 0).f0) ≤ 2 then (if ((rd_T74 [a0] 0).f2) = 0 then (if ((rd_T74 [a0] 0).f3) = 0 then (if ((rd_T74 [a0] 0).f0) = 10 then (spec_l3Node.j0 k a0 a1 (decide (((rd_T74 [a0] 0).f0) ≤ 2)) (((rd_T74 [a0] 0).f3) != 0)) else (spec_l3Node.j0 k a0 a1 (decide (((rd_T74 [a0] 0).f0) ≤ 2)) false)) else (spec_l3Node.j0 k a0 a1 (decide (((rd_T74 [a0] 0).f0) ≤ 2)) true)) else (spec_l3Node.j0 k a0 a1 (decide (((rd_T74 [a0] 0).f0) ≤ 2)) true)) else (if ((rd_T74 [a0] 0).f1) = 0 then (if ((rd_T74 [a0] 0).f0) = 10 then (spec_l3Node.j0 k a0 a1 (decide (((rd_T74 [a0] 0).f0) ≤ 2)) (((rd_T74 [a0] 0).f3) != 0)) else (spec_l3Node.j0 k a0 a1 (decide (((rd_T74 [a0] 0).f0) ≤ 2)) false)) else (spec_l3Node.j0 k a0 a1 (decide (((rd_T74 [a0] 0).f0) ≤ 2)) true))) else (some 1))
theorem spec_l3Node.mono_l : ∀ k, (∀ y0 y1 y2 y3, LeO (spec_l3Node.j0 k y0 y1 y2 y3) (spec_l3Node.j0 (k + 1) y0 y1 y2 y3)) ∧ (∀ y0 y1 y2 y3, LeO (spec_l3Node.j1 k y0 y1 y2 y3) (spec_l3Node.j1 (k + 1) y0 y1 y2 y3))
  | 0 => ⟨fun _ _ _ _ r h => by simp [spec_l3Node.j0] at h, fun _ _ _ _ r h => by simp [spec_l3Node.j1] at h⟩
  | k + 1 => by
    obtain ⟨ih0, ih1⟩ := spec_l3Node.mono_l k
    refine ⟨?_, ?_⟩
    · intro y0 y1 y2 y3
      unfold spec_l3Node.j0
      repeat' (with_reducible first | exact ih0 _ _ _ _ | exact ih1 _ _ _ _ | exact LeO.refl _ | exact LeO.none _ | refine LeO.ite ?_ ?_ | refine LeO.bind ?_ (fun _ => ?_))
    · intro y0 y1 y2 y3
      unfold spec_l3Node.j1
      repeat' (with_reducible first | exact ih0 _ _ _ _ | exact ih1 _ _ _ _ | exact LeO.refl _ | exact LeO.none _ | refine LeO.ite ?_ ?_ | refine LeO.bind ?_ (fun _ => ?_))
theorem spec_l3Node.mono : ∀ a0 a1 k, LeO (spec_l3Node.f k a0 a1) (spec_l3Node.f (k + 1) a0 a1) := by
  intro a0 a1 k
  obtain ⟨ih0, ih1⟩ := spec_l3Node.mono_l k
  unfold spec_l3Node.f
  repeat' (with_reducible first | exact ih0 _ _ _ _ | exact ih1 _ _ _ _ | exact LeO.refl _ | exact LeO.none _ | refine LeO.ite ?_ ?_ | refine LeO.bind ?_ (fun _ => ?_))
set_option maxHeartbeats 8000000 in
set_option maxRecDepth 100000 in
theorem spec_l3Node.calls (k : Nat) (adp0 : Addr) (a0 : S74) (a1 : Int) (r : Int) (w : World) (hr0 : Kd.C k74 w (some adp0) 1 [a0]) (h : spec_l3Node.f k a0 a1 = some r) :
    Calls Try.prog 58 #[.pointer (some adp0), .int .i64 a1] w fun e w' => e = .returned (.int .i64 r) ∧ Drawn0 w w' := by
 have HR0 := a_ hr0; clear hr0; have H : ((spec_l1In.f ((rd_T74 [a0] 0).f0) 1 10).bind fun t119 => (if t119 = true then (if ((rd_T74 [a0] 0).f0) ≤ 2 then (if ((rd_T74 [a0] 0).f2) = 0 then (if ((rd_T74 [a0] 0).f3) = 0 then (if ((rd_T74 [a0] 0).f0) = 10 then (spec_l3Node.j0 k a0 a1 (decide (((rd_T74 [a0] 0).f0) ≤ 2)) (((rd_T74 [a0] 0).f3) != 0)) else (spec_l3Node.j0 k a0 a1 (decide (((rd_T74 [a0] 0).f0) ≤ 2)) false)) else (spec_l3Node.j0 k a0 a1 (decide (((rd_T74 [a0] 0).f0) ≤ 2)) true)) else (spec_l3Node.j0 k a0 a1 (decide (((rd_T74 [a0] 0).f0) ≤ 2)) true)) else (if ((rd_T74 [a0] 0).f1) = 0 then (if ((rd_T74 [a0] 0).f0) = 10 then (spec_l3Node.j0 k a0 a1 (decide (((rd_T74 [a0] 0).f0) ≤ 2)) (((rd_T74 [a0] 0).f3) != 0)) else (spec_l3Node.j0 k a0 a1 (decide (((rd_T74 [a0] 0).f0) ≤ 2)) false)) else (spec_l3Node.j0 k a0 a1 (decide (((rd_T74 [a0] 0).f0) ≤ 2)) true))) else (some 1))) = some r := h; clear h; replace H := Option.bind_eq_some_iff.mp H; obtain ⟨tx0, Ay0, H⟩ := H; have Ax0 := a_ Ay0; clear Ay0; by_cases cx1 : tx0 = true
 ·subst cx1; rw [if_pos rfl] at H; have HC5 := a_ H; clear H; have p118 : 0 ≤ (0 : Int) := y88_; have q118 : 0 < ([a0].length : Int) := y57_; obtain ⟨ad118, e118, hx118_0, hx118_1, hx118_2, hx118_3⟩ := at_T74 HR0.out 0 p118 q118; obtain rfl : adp0 = ad118 := (by injection e118); have qi118 : (0 < [a0].length) = True := eq_true y88_; (try rw [show ((0 : Int)).toNat = 0 from rfl] at hx118_0); (try rw [show 0 * 4 = 0 from rfl] at hx118_0); (try rw [Addr.add_zero'] at hx118_0); (try rw [show ((0 : Int)).toNat = 0 from rfl] at hx118_1); (try rw [show 0 * 4 = 0 from rfl] at hx118_1); (try rw [Addr.add_zero'] at hx118_1); (try rw [show ((0 : Int)).toNat = 0 from rfl] at hx118_2); (try rw [show 0 * 4 = 0 from rfl] at hx118_2); (try rw [Addr.add_zero'] at hx118_2); (try rw [show ((0 : Int)).toNat = 0 from rfl] at hx118_3); (try rw [show 0 * 4 = 0 from rfl] at hx118_3); (try rw [Addr.add_zero'] at hx118_3); replace p118 := eq_true p118; replace q118 := eq_true q118; go_enter Try.func58, Try.ntmps58
  go_upto_region 4 with (first | ((with_reducible refine gate_callee (f := 36) rfl ?_); refine gc_ 36 10 Try.func36 #[.int .i64 ((rd_T74 [a0] 0).f0), .int .i64 1, .int .i64 10] ?_; (with_reducible refine (spec_l1In.calls ((rd_T74 [a0] 0).f0) 1 10 true _ Ax0.out).mono ?_); rintro e w' ⟨rfl, ⟨nd, rfl⟩⟩; refine ⟨_, rfl, ?_⟩))
  (try simp only [Act.put, List.setIfInBounds_toArray, List.set_cons_zero, List.set_cons_succ]); go_cut [5, 56] (fun v5 v56 wc => ∃ (kq : Nat) (x5_4 : Bool) (x56_4 : Bool), v5 = .bool x5_4 ∧ v56 = .bool x56_4 ∧ Aside0 (spec_l3Node.j0 kq a0 a1 x5_4 x56_4 = some r) ∧ Aside0 (kq ≤ k) ∧ Drawn0 w wc)
  case first =>
   have H := HC5.out; clear HC5; by_cases cx2 : ((rd_T74 [a0] 0).f0) ≤ 2; rw [if_pos cx2] at H; have cx2b0 : decide (((rd_T74 [a0] 0).f0) ≤ 2) = true := decide_eq_true cx2; clear cx2; (first | rw [cx2b0] | (simp only [i64_w, i32_w]; rw [cx2b0]) | skip); by_cases cx3 : ((rd_T74 [a0] 0).f2) = 0; rw [if_pos cx3] at H; have cx3b0 : (((rd_T74 [a0] 0).f2) == 0) = true := beq_iff_eq.mpr cx3; have cx3b1 : (((rd_T74 [a0] 0).f2) != 0) = false := bne_eq_false_iff_eq.mpr cx3; clear cx3; by_cases cx4 : ((rd_T74 [a0] 0).f3) = 0; rw [if_pos cx4] at H; have cx4b0 : (((rd_T74 [a0] 0).f3) == 0) = true := beq_iff_eq.mpr cx4; have cx4b1 : (((rd_T74 [a0] 0).f3) != 0) = false := bne_eq_false_iff_eq.mpr cx4; clear cx4; by_cases cx5 : ((rd_T74 [a0] 0).f0) = 10; rw [if_pos cx5] at H; have cx5b0 : (((rd_T74 [a0] 0).f0) == 10) = true := beq_iff_eq.mpr cx5; have cx5b1 : (((rd_T74 [a0] 0).f0) != 10) = false := bne_eq_false_iff_eq.mpr cx5; clear cx5; have H' := a_ H; clear H; have m1_0 := t_; rotate_left; rw [if_neg cx5] at H; have cx5b0 : (((rd_T74 [a0] 0).f0) == 10) = false := beq_eq_false_iff_ne.mpr cx5; have cx5b1 : (((rd_T74 [a0] 0).f0) != 10) = true := bne_iff_ne.mpr cx5; have H' := a_ H; clear H; have m1_1 := t_; rotate_left; rw [if_neg cx4] at H; have cx4b0 : (((rd_T74 [a0] 0).f3) == 0) = false := beq_eq_false_iff_ne.mpr cx4; have cx4b1 : (((rd_T74 [a0] 0).f3) != 0) = true := bne_iff_ne.mpr cx4; have H' := a_ H; clear H; have m1_2 := t_; rotate_left; rw [if_neg cx3] at H; have cx3b0 : (((rd_T74 [a0] 0).f2) == 0) = false := beq_eq_false_iff_ne.mpr cx3; have cx3b1 : (((rd_T74 [a0] 0).f2) != 0) = true := bne_iff_ne.mpr cx3; have H' := a_ H; clear H; have m1_2 := t_; rotate_left; rw [if_neg cx2] at H; have cx2b0 : decide (((rd_T74 [a0] 0).f0) ≤ 2) = false := decide_eq_false cx2; clear cx2; (first | rw [cx2b0] | (simp only [i64_w, i32_w]; rw [cx2b0]) | skip); by_cases cx3 : ((rd_T74 [a0] 0).f1) = 0; rw [if_pos cx3] at H; have cx3b0 : (((rd_T74 [a0] 0).f1) == 0) = true := beq_iff_eq.mpr cx3; have cx3b1 : (((rd_T74 [a0] 0).f1) != 0) = false := bne_eq_false_iff_eq.mpr cx3; clear cx3; by_cases cx4 : ((rd_T74 [a0] 0).f0) = 10; rw [if_pos cx4] at H; have cx4b0 : (((rd_T74 [a0] 0).f0) == 10) = true := beq_iff_eq.mpr cx4; have cx4b1 : (((rd_T74 [a0] 0).f0) != 10) = false := bne_eq_false_iff_eq.mpr cx4; clear cx4; have H' := a_ H; clear H; have m1_0 := t_; rotate_left; rw [if_neg cx4] at H; have cx4b0 : (((rd_T74 [a0] 0).f0) == 10) = false := beq_eq_false_iff_ne.mpr cx4; have cx4b1 : (((rd_T74 [a0] 0).f0) != 10) = true := bne_iff_ne.mpr cx4; have H' := a_ H; clear H; have m1_1 := t_; rotate_left; rw [if_neg cx3] at H; have cx3b0 : (((rd_T74 [a0] 0).f1) == 0) = false := beq_eq_false_iff_ne.mpr cx3; have cx3b1 : (((rd_T74 [a0] 0).f1) != 0) = true := bne_iff_ne.mpr cx3; have H' := a_ H; clear H; have m1_2 := t_; rotate_left
   all_goals (
    go_wp2
    go_meet
    first
    | fail_if_success clear m1_0
    |(clear m1_0
      case rel => exact ⟨_, (decide (((rd_T74 [a0] 0).f0) ≤ 2)), ((((rd_T74 [a0] 0).f3) != 0)), y1_, y1_, H', ⟨y45_⟩, y9_⟩)
    first
    | fail_if_success clear m1_1
    |(clear m1_1
      case rel => exact ⟨_, (decide (((rd_T74 [a0] 0).f0) ≤ 2)), (false), y1_, y1_, H', ⟨y45_⟩, y9_⟩)
    first
    | fail_if_success clear m1_2
    |(clear m1_2
      case rel => exact ⟨_, (decide (((rd_T74 [a0] 0).f0) ≤ 2)), (true), y1_, y1_, H', ⟨y45_⟩, y9_⟩))
  case rest =>
   clear HC5; (try clear qi1); (try clear cx1); (try clear qi11); (try clear hx118_0); (try clear hx118_1); (try clear hx118_2); (try clear hx118_3); (try clear p118); (try clear q118); obtain ⟨kq, x5_4, x56_4, rfl, rfl, HA, HJ4, ⟨mc4, rfl⟩⟩ := hcut; cases kq with
   | zero => exact absurd HA.out (by simp [spec_l3Node.j0])
   | succ kj4 =>
    have H := HA.out; clear HA; simp only [spec_l3Node.j0] at H; by_cases cx2 : x56_4 = true
    ·subst cx2; rw [if_pos rfl] at H; obtain rfl := Option.some.inj H; go_wp2
     go_ret
     exact ⟨y1_, y9_⟩
    ·replace cx2 := Bool.eq_false_iff.mpr cx2; subst cx2; rw [if_neg (show ¬ (false = true) by decide)] at H; have HC13 := a_ H; clear H; go_upto_region 6 with (fail)
     go_cut [5, 84] (fun v5 v84 wc => ∃ (kq : Nat) (x5_12 : Bool) (x84_12 : Bool), v5 = .bool x5_12 ∧ v84 = .bool x84_12 ∧ Aside0 (spec_l3Node.j1 kq a0 a1 x5_12 x84_12 = some r) ∧ Aside0 (kq ≤ kj4) ∧ Drawn0 w wc)
     case first =>
      have H := HC13.out; clear HC13; by_cases cx3 : ((rd_T74 [a0] 0).f0) = 1; rw [if_pos cx3] at H; have cx3b0 : (((rd_T74 [a0] 0).f0) == 1) = true := beq_iff_eq.mpr cx3; have cx3b1 : (((rd_T74 [a0] 0).f0) != 1) = false := bne_eq_false_iff_eq.mpr cx3; clear cx3; (first | rw [cx3b0] | (simp only [i64_w, i32_w]; rw [cx3b0]) | skip); replace H := Option.bind_eq_some_iff.mp H; obtain ⟨tx4, Ay4, H⟩ := H; have Ax4 := a_ Ay4; clear Ay4; by_cases cx5 : tx4 = true; subst cx5; rw [if_pos rfl] at H; by_cases cx6 : ((rd_T74 [a0] 0).f0) = 2; rw [if_pos cx6] at H; have cx6b0 : (((rd_T74 [a0] 0).f0) == 2) = true := beq_iff_eq.mpr cx6; have cx6b1 : (((rd_T74 [a0] 0).f0) != 2) = false := bne_eq_false_iff_eq.mpr cx6; clear cx6; replace H := Option.bind_eq_some_iff.mp H; obtain ⟨tx7, Ay7, H⟩ := H; have Ax7 := a_ Ay7; clear Ay7; have H' := a_ H; clear H; have m2_0 := t_; have m2_1 := t_; have m2_2 := t_; have m2_4 := t_; rotate_left; rw [if_neg cx6] at H; have cx6b0 : (((rd_T74 [a0] 0).f0) == 2) = false := beq_eq_false_iff_ne.mpr cx6; have cx6b1 : (((rd_T74 [a0] 0).f0) != 2) = true := bne_iff_ne.mpr cx6; have H' := a_ H; clear H; have m2_0 := t_; have m2_1 := t_; have m2_6 := t_; rotate_left; replace cx5 := Bool.eq_false_iff.mpr cx5; subst cx5; rw [if_neg (show ¬ (false = true) by decide)] at H; have H' := a_ H; clear H; have m2_0 := t_; have m2_1 := t_; have m2_7 := t_; rotate_left; rw [if_neg cx3] at H; have cx3b0 : (((rd_T74 [a0] 0).f0) == 1) = false := beq_eq_false_iff_ne.mpr cx3; have cx3b1 : (((rd_T74 [a0] 0).f0) != 1) = true := bne_iff_ne.mpr cx3; (first | rw [cx3b0] | (simp only [i64_w, i32_w]; rw [cx3b0]) | skip); by_cases cx4 : ((rd_T74 [a0] 0).f0) = 2; rw [if_pos cx4] at H; have cx4b0 : (((rd_T74 [a0] 0).f0) == 2) = true := beq_iff_eq.mpr cx4; have cx4b1 : (((rd_T74 [a0] 0).f0) != 2) = false := bne_eq_false_iff_eq.mpr cx4; clear cx4; replace H := Option.bind_eq_some_iff.mp H; obtain ⟨tx5, Ay5, H⟩ := H; have Ax5 := a_ Ay5; clear Ay5; have H' := a_ H; clear H; have m2_0 := t_; have m2_3 := t_; have m2_8 := t_; rotate_left; rw [if_neg cx4] at H; have cx4b0 : (((rd_T74 [a0] 0).f0) == 2) = false := beq_eq_false_iff_ne.mpr cx4; have cx4b1 : (((rd_T74 [a0] 0).f0) != 2) = true := bne_iff_ne.mpr cx4; have H' := a_ H; clear H; have m2_5 := t_; have m2_6 := t_; rotate_left
      all_goals (
       have p9922068 : 0 ≤ (0 : Int) := y88_; have q9922068 : 0 < ([a0].length : Int) := y57_; obtain ⟨ad9922068, e9922068, hx9922068_0, hx9922068_1, hx9922068_2, hx9922068_3⟩ := at_T74 HR0.out 0 p9922068 q9922068; obtain rfl : adp0 = ad9922068 := (by injection e9922068); have qi120 : (0 < [a0].length) = True := eq_true y88_; (try rw [show ((0 : Int)).toNat = 0 from rfl] at hx9922068_0); (try rw [show 0 * 4 = 0 from rfl] at hx9922068_0); (try rw [Addr.add_zero'] at hx9922068_0); (try rw [show ((0 : Int)).toNat = 0 from rfl] at hx9922068_1); (try rw [show 0 * 4 = 0 from rfl] at hx9922068_1); (try rw [Addr.add_zero'] at hx9922068_1); (try rw [show ((0 : Int)).toNat = 0 from rfl] at hx9922068_2); (try rw [show 0 * 4 = 0 from rfl] at hx9922068_2); (try rw [Addr.add_zero'] at hx9922068_2); (try rw [show ((0 : Int)).toNat = 0 from rfl] at hx9922068_3); (try rw [show 0 * 4 = 0 from rfl] at hx9922068_3); (try rw [Addr.add_zero'] at hx9922068_3); replace p9922068 := eq_true p9922068; replace q9922068 := eq_true q9922068
       first
       | fail_if_success clear m2_0
       |(clear m2_0; go_wp2_with (first | (have mkq_ := m2_1; clear mkq_; go_at_call 36; (with_reducible refine (spec_l1In.calls ((rd_T74 [a0] 0).f1) 0 9999 _ _ Ax4.out).mono ?_); rintro e w' ⟨rfl, ⟨nd, rfl⟩⟩) | (have mkq_ := m2_2; clear mkq_; go_at_call 36; (with_reducible refine (spec_l1In.calls ((rd_T74 [a0] 0).f1) 0 3 tx7 _ Ax7.out).mono ?_); rintro e w' ⟨rfl, ⟨nd, rfl⟩⟩) | (have mkq_ := m2_3; clear mkq_; go_at_call 36; (with_reducible refine (spec_l1In.calls ((rd_T74 [a0] 0).f1) 0 3 tx5 _ Ax5.out).mono ?_); rintro e w' ⟨rfl, ⟨nd, rfl⟩⟩))
         go_meet)
       first
       | fail_if_success clear m2_4
       |(clear m2_4
         case rel => exact ⟨_, (x5_4), (!tx7), y1_, y1_, H', ⟨y89_⟩, y9_⟩)
       first
       | fail_if_success clear m2_5
       |(clear m2_5; go_wp2
         go_meet)
       first
       | fail_if_success clear m2_6
       |(clear m2_6
         case rel => exact ⟨_, (x5_4), (false), y1_, y1_, H', ⟨y89_⟩, y9_⟩)
       first
       | fail_if_success clear m2_7
       |(clear m2_7
         case rel => exact ⟨_, (x5_4), (true), y1_, y1_, H', ⟨y89_⟩, y9_⟩)
       first
       | fail_if_success clear m2_8
       |(clear m2_8
         case rel => exact ⟨_, (x5_4), (!tx5), y1_, y1_, H', ⟨y89_⟩, y9_⟩))
     case rest =>
      clear HC13; (try clear qi1); (try clear cx1); (try clear qi11); (try clear cx2); (try clear qi12); (try clear hx118_0); (try clear hx118_1); (try clear hx118_2); (try clear hx118_3); (try clear p118); (try clear q118); obtain ⟨kq, x5_12, x84_12, rfl, rfl, HA, HJ12, ⟨mc12, rfl⟩⟩ := hcut; cases kq with
      | zero => exact absurd HA.out (by simp [spec_l3Node.j1])
      | succ kj12 =>
       have H := HA.out; clear HA; simp only [spec_l3Node.j1] at H; by_cases cx3 : x84_12 = true; subst cx3; rw [if_pos rfl] at H; obtain rfl := Option.some.inj H; have m2_0 := t_; rotate_left; replace cx3 := Bool.eq_false_iff.mpr cx3; subst cx3; rw [if_neg (show ¬ (false = true) by decide)] at H; by_cases cx4 : x5_12 = true; subst cx4; rw [if_pos rfl] at H; replace H := Option.bind_eq_some_iff.mp H; obtain ⟨tx5, Ay5, H⟩ := H; have Ax5 := a_ Ay5; clear Ay5; by_cases cx6 : tx5 = true; subst cx6; rw [if_pos rfl] at H; replace H := Option.bind_eq_some_iff.mp H; obtain ⟨tx7, Ay7, H⟩ := H; have Ax7 := a_ Ay7; clear Ay7; by_cases cx8 : tx7 = true; subst cx8; rw [if_pos rfl] at H; obtain rfl := Option.some.inj H; have m2_1 := t_; have m2_2 := t_; have m2_4 := t_; have m2_5 := t_; have m2_6 := t_; rotate_left; replace cx8 := Bool.eq_false_iff.mpr cx8; subst cx8; rw [if_neg (show ¬ (false = true) by decide)] at H; obtain rfl := Option.some.inj H; have m2_1 := t_; have m2_2 := t_; have m2_4 := t_; have m2_5 := t_; have m2_6 := t_; rotate_left; replace cx6 := Bool.eq_false_iff.mpr cx6; subst cx6; rw [if_neg (show ¬ (false = true) by decide)] at H; obtain rfl := Option.some.inj H; have m2_1 := t_; have m2_2 := t_; have m2_4 := t_; have m2_5 := t_; rotate_left; replace cx4 := Bool.eq_false_iff.mpr cx4; subst cx4; rw [if_neg (show ¬ (false = true) by decide)] at H; replace H := Option.bind_eq_some_iff.mp H; obtain ⟨tx5, Ay5, H⟩ := H; have Ax5 := a_ Ay5; clear Ay5; by_cases cx6 : tx5 = true; subst cx6; rw [if_pos rfl] at H; replace H := Option.bind_eq_some_iff.mp H; obtain ⟨tx7, Ay7, H⟩ := H; have Ax7 := a_ Ay7; clear Ay7; by_cases cx8 : tx7 = true; subst cx8; rw [if_pos rfl] at H; replace H := Option.bind_eq_some_iff.mp H; obtain ⟨tx9, Ay9, H⟩ := H; have Ax9 := a_ Ay9; clear Ay9; by_cases cx10 : tx9 = true; subst cx10; rw [if_pos rfl] at H; obtain rfl := Option.some.inj H; have m2_1 := t_; have m2_3 := t_; have m2_4 := t_; have m2_7 := t_; have m2_8 := t_; have m2_9 := t_; rotate_left; replace cx10 := Bool.eq_false_iff.mpr cx10; subst cx10; rw [if_neg (show ¬ (false = true) by decide)] at H; obtain rfl := Option.some.inj H; have m2_1 := t_; have m2_3 := t_; have m2_4 := t_; have m2_7 := t_; have m2_8 := t_; have m2_9 := t_; rotate_left; replace cx8 := Bool.eq_false_iff.mpr cx8; subst cx8; rw [if_neg (show ¬ (false = true) by decide)] at H; obtain rfl := Option.some.inj H; have m2_1 := t_; have m2_3 := t_; have m2_4 := t_; have m2_7 := t_; have m2_8 := t_; rotate_left; replace cx6 := Bool.eq_false_iff.mpr cx6; subst cx6; rw [if_neg (show ¬ (false = true) by decide)] at H; obtain rfl := Option.some.inj H; have m2_1 := t_
       have m2_3 := t_; have m2_4 := t_; have m2_7 := t_; rotate_left
       all_goals (
        first
        | fail_if_success clear m2_0
        |(clear m2_0; go_wp2
          go_ret
          exact ⟨y1_, y9_⟩)
        first
        | fail_if_success clear m2_1
        |(clear m2_1; have p9922068 : 0 ≤ (0 : Int) := y88_; have q9922068 : 0 < ([a0].length : Int) := y57_; obtain ⟨ad9922068, e9922068, hx9922068_0, hx9922068_1, hx9922068_2, hx9922068_3⟩ := at_T74 HR0.out 0 p9922068 q9922068; obtain rfl : adp0 = ad9922068 := (by injection e9922068))
        first
        | fail_if_success clear m2_2
        |(clear m2_2; have qi124 : (0 < [a0].length) = True := eq_true y88_)
        first
        | fail_if_success clear m2_3
        |(clear m2_3; have qi127 : (0 < [a0].length) = True := eq_true y88_)
        first
        | fail_if_success clear m2_4
        |(clear m2_4; (try rw [show ((0 : Int)).toNat = 0 from rfl] at hx9922068_0); (try rw [show 0 * 4 = 0 from rfl] at hx9922068_0); (try rw [Addr.add_zero'] at hx9922068_0); (try rw [show ((0 : Int)).toNat = 0 from rfl] at hx9922068_1); (try rw [show 0 * 4 = 0 from rfl] at hx9922068_1); (try rw [Addr.add_zero'] at hx9922068_1); (try rw [show ((0 : Int)).toNat = 0 from rfl] at hx9922068_2); (try rw [show 0 * 4 = 0 from rfl] at hx9922068_2); (try rw [Addr.add_zero'] at hx9922068_2); (try rw [show ((0 : Int)).toNat = 0 from rfl] at hx9922068_3); (try rw [show 0 * 4 = 0 from rfl] at hx9922068_3); (try rw [Addr.add_zero'] at hx9922068_3); replace p9922068 := eq_true p9922068; replace q9922068 := eq_true q9922068; go_wp2_with (first | (have mkq_ := m2_5; clear mkq_; go_at_call 66; (with_reducible refine (spec_l3Two.calls ((rd_T74 [a0] 0).f0) _ _ Ax5.out).mono ?_); rintro e w' ⟨rfl, ⟨nd, rfl⟩⟩) | (have mkq_ := m2_6; clear mkq_; go_at_call 36; (with_reducible refine (spec_l1In.calls ((rd_T74 [a0] 0).f3) 0 (wrap64 (a1 - 1)) _ _ Ax7.out).mono ?_); rintro e w' ⟨rfl, ⟨nd, rfl⟩⟩) | (have mkq_ := m2_7; clear mkq_; go_at_call 36; (with_reducible refine (spec_l1In.calls ((rd_T74 [a0] 0).f2) 0 (wrap64 (a1 - 1)) _ _ Ax5.out).mono ?_); rintro e w' ⟨rfl, ⟨nd, rfl⟩⟩) | (have mkq_ := m2_8; clear mkq_; go_at_call 66; (with_reducible refine (spec_l3Two.calls ((rd_T74 [a0] 0).f0) _ _ Ax7.out).mono ?_); rintro e w' ⟨rfl, ⟨nd, rfl⟩⟩) | (have mkq_ := m2_9; clear mkq_; go_at_call 36; (with_reducible refine (spec_l1In.calls ((rd_T74 [a0] 0).f3) 0 (wrap64 (a1 - 1)) _ _ Ax9.out).mono ?_); rintro e w' ⟨rfl, ⟨nd, rfl⟩⟩))
          go_ret
          exact ⟨y1_, y9_⟩))
 ·replace cx1 := Bool.eq_false_iff.mpr cx1; subst cx1; rw [if_neg (show ¬ (false = true) by decide)] at H; obtain rfl := Option.some.inj H; have p118 : 0 ≤ (0 : Int) := y88_; have q118 : 0 < ([a0].length : Int) := y57_; obtain ⟨ad118, e118, hx118_0, hx118_1, hx118_2, hx118_3⟩ := at_T74 HR0.out 0 p118 q118; obtain rfl : adp0 = ad118 := (by injection e118); have qi118 : (0 < [a0].length) = True := eq_true y88_; (try rw [show ((0 : Int)).toNat = 0 from rfl] at hx118_0); (try rw [show 0 * 4 = 0 from rfl] at hx118_0); (try rw [Addr.add_zero'] at hx118_0); (try rw [show ((0 : Int)).toNat = 0 from rfl] at hx118_1); (try rw [show 0 * 4 = 0 from rfl] at hx118_1); (try rw [Addr.add_zero'] at hx118_1); (try rw [show ((0 : Int)).toNat = 0 from rfl] at hx118_2); (try rw [show 0 * 4 = 0 from rfl] at hx118_2); (try rw [Addr.add_zero'] at hx118_2); (try rw [show ((0 : Int)).toNat = 0 from rfl] at hx118_3); (try rw [show 0 * 4 = 0 from rfl] at hx118_3); (try rw [Addr.add_zero'] at hx118_3); replace p118 := eq_true p118; replace q118 := eq_true q118; go_enter Try.func58, Try.ntmps58
  go_wp2_with (first | ((with_reducible refine gate_callee (f := 36) rfl ?_); refine gc_ 36 10 Try.func36 #[.int .i64 ((rd_T74 [a0] 0).f0), .int .i64 1, .int .i64 10] ?_; (with_reducible refine (spec_l1In.calls ((rd_T74 [a0] 0).f0) 1 10 false _ Ax0.out).mono ?_); rintro e w' ⟨rfl, ⟨nd, rfl⟩⟩; refine ⟨_, rfl, ?_⟩))
  go_ret
  exact ⟨y1_, y9_⟩

/-! ### spec_l3Walk: function 59 -/
mutual
def spec_l3Walk.j0 : Nat → List (S74) → Int → List Int → Option (List Int)
  | 0, _, _, _ => none
  | k + 1, x0, x1, x2 => if 0 ≤ x1 then (if x1 < (x0.length : Int) then ((spec_l3Two.f ((rd_T74 x0 x1).f0)).bind fun t137 => (if t137 = true then ((spec_l3Walk.f k x0 ((rd_T74 x0 x1).f3) x2).bind fun t139 => (if t139.length < 17592186044416 then (some (t139 ++ [x1])) else (none))) else (if x2.length < 17592186044416 then (some (x2 ++ [x1])) else (none)))) else (none)) else (none)
def spec_l3Walk.f : Nat → List (S74) → Int → List Int → Option (List Int)
  | 0, _, _, _ => none
  | k + 1, l0, a1, l2 => if (l2.length : Int) > 16 then (some l2) else (if 0 ≤ a1 then (if a1 < (l0.length : Int) then (if ((rd_T74 l0 a1).f0) > 2 then ((spec_l3Walk.f k l0 ((rd_T74 l0 a1).f2) l2).bind fun t133 => (spec_l3Walk.j0 k l0 a1 t133)) else (spec_l3Walk.j0 k l0 a1 l2)) else (none)) else (none))
end
theorem spec_l3Walk.mono_l : ∀ k, (∀ y0 y1 y2, LeO (spec_l3Walk.f k y0 y1 y2) (spec_l3Walk.f (k + 1) y0 y1 y2)) ∧ (∀ y0 y1 y2, LeO (spec_l3Walk.j0 k y0 y1 y2) (spec_l3Walk.j0 (k + 1) y0 y1 y2))
  | 0 => ⟨fun _ _ _ r h => by simp [spec_l3Walk.f] at h, fun _ _ _ r h => by simp [spec_l3Walk.j0] at h⟩
  | k + 1 => by
    obtain ⟨ih0, ih1⟩ := spec_l3Walk.mono_l k
    refine ⟨?_, ?_⟩
    · intro y0 y1 y2
      unfold spec_l3Walk.f
      repeat' (with_reducible first | exact ih0 _ _ _ | exact ih1 _ _ _ | exact LeO.refl _ | exact LeO.none _ | refine LeO.ite ?_ ?_ | refine LeO.bind ?_ (fun _ => ?_))
    · intro y0 y1 y2
      unfold spec_l3Walk.j0
      repeat' (with_reducible first | exact ih0 _ _ _ | exact ih1 _ _ _ | exact LeO.refl _ | exact LeO.none _ | refine LeO.ite ?_ ?_ | refine LeO.bind ?_ (fun _ => ?_))
theorem spec_l3Walk.mono : ∀ a0 a1 a2 k, LeO (spec_l3Walk.f k a0 a1 a2) (spec_l3Walk.f (k + 1) a0 a1 a2) := by
  intro a0 a1 a2 k
  obtain ⟨ih0, ih1⟩ := spec_l3Walk.mono_l k
  exact ih0 a0 a1 a2
set_option maxHeartbeats 8000000 in
set_option maxRecDepth 100000 in
theorem spec_l3Walk.calls (k : Nat) : ∀ (A0 : Option Addr) (c0 : Nat) (l0 : List (S74)) (a1 : Int) (P2_ : Nat → Prop) (u9000_ : Value) (l2 : List Int) (r : List Int) (w0 w : World) (hB : Below w0.heap.size w0 w) (hr0 : ∀ W_, Kept w W_ (fun k_ => P2_ k_) → Kd.C k74 W_ A0 l0.length l0) (hc0 : l0.length ≤ c0) (ho2 : Kd.R (Kd.int .i64) 2 w w0.heap.size P2_ u9000_ l2) (h : spec_l3Walk.f k l0 a1 l2 = some r),
    Calls Try.prog 59 #[.slice A0 l0.length c0, .int .i64 a1, u9000_] w fun e w' => ∃ v0_ : Value, e = .returned (v0_) ∧ Kd.R (Kd.int .i64) 2 w' w0.heap.size (fun k_ => (P2_ k_ ∨ w.heap.size ≤ k_)) v0_ r ∧ Below w0.heap.size w0 w' ∧ Kept w w' (fun k_ => P2_ k_) := by
 induction k using Nat.strongRecOn with
 | _ k ih =>
 intro A0 c0 l0 a1 P2_ u9000_ l2 r w0 w hB hr0 hc0 ho2 h; cases k with
 | zero => exact absurd h (by simp [spec_l3Walk.f])
 | succ k =>
 simp only [spec_l3Walk.f] at h; have HR0 := a_ hr0; have HC0 := a_ hc0; clear hr0 hc0; have HO2 := a_ (show Kd.R (Kd.int .i64) 2 w w0.heap.size (fun k_ => (P2_ k_ ∨ w.heap.size ≤ k_)) u9000_ l2 from Kd.R_mono ho2 (fun k_ hk => (.inl hk))); have HK := a_ (Kept.refl w (fun k_ => P2_ k_)); have HW0 := a_ hB.size; have HB := a_ hB; clear hB; have H : (if (l2.length : Int) > 16 then (some l2) else (if 0 ≤ a1 then (if a1 < (l0.length : Int) then (if ((rd_T74 l0 a1).f0) > 2 then ((spec_l3Walk.f k l0 ((rd_T74 l0 a1).f2) l2).bind fun t133 => (spec_l3Walk.j0 k l0 a1 t133)) else (spec_l3Walk.j0 k l0 a1 l2)) else (none)) else (none))) = some r := h; clear h; by_cases cx0 : (l2.length : Int) > 16
 ·rw [if_pos cx0] at H; have cx0b0 : decide (16 < (l2.length : Int)) = true := decide_eq_true cx0; have cx0b1 : decide (16 < l2.length) = true := decide_eq_true y88_; clear cx0; obtain rfl := Option.some.inj H; obtain ⟨Ao5, co5, eo5⟩ := Kd.R_slice HO2.out; subst eo5; go_enter Try.func59, Try.ntmps59
  go_wp2
  go_ret
  exact ⟨_, y4_, by (with_reducible repeat (first | apply Kd.R_alloc | apply Kd.R_drewN | apply Kd.R_drew)); exact HO2.out, y0_, y34_⟩
 ·rw [if_neg cx0] at H; have cx0b0 : decide (16 < (l2.length : Int)) = false := decide_eq_false cx0; have cx0b1 : decide (16 < l2.length) = false := decide_eq_false y88_; clear cx0; by_cases cx1 : 0 ≤ a1
  ·rw [if_pos cx1] at H; have cx1b0 : decide (0 ≤ a1) = true := decide_eq_true cx1; clear cx1; by_cases cx2 : a1 < (l0.length : Int)
   ·rw [if_pos cx2] at H; have cx2b0 : decide (a1 < (l0.length : Int)) = true := decide_eq_true cx2; clear cx2; have HC8 := a_ H; clear H; obtain ⟨Ao9, co9, eo9⟩ := Kd.R_slice HO2.out; subst eo9; have p131 : 0 ≤ (a1 : Int) := of_decide_eq_true y2_; have q131 : a1 < (l0.length : Int) := of_decide_eq_true y2_; obtain ⟨ad131, e131, hx131_0, hx131_1, hx131_2, hx131_3⟩ := at_T74 (Kd.C_kept_now HR0.out HK.out) a1 p131 q131; cases e131; replace p131 := eq_true p131; replace q131 := eq_true q131; go_enter Try.func59, Try.ntmps59
    go_upto_if 16 with (fail)
    go_cut [2] (fun v2 wc => ∃ (kq : Nat) (x2_7 : List Int), Aside0 (spec_l3Walk.j0 kq l0 a1 x2_7 = some r) ∧ Aside0 (kq ≤ k) ∧ Aside0 (Kd.R (Kd.int .i64) 2 wc w0.heap.size (fun k_ => (P2_ k_ ∨ w.heap.size ≤ k_)) v2 x2_7) ∧ Aside0 (Kept w wc (fun k_ => P2_ k_)) ∧ Aside0 (Below w0.heap.size w0 wc))
    case first =>
     have H := HC8.out; clear HC8; by_cases cx3 : ((rd_T74 l0 a1).f0) > 2
     ·rw [if_pos cx3] at H; have cx3b0 : decide (2 < ((rd_T74 l0 a1).f0)) = true := decide_eq_true cx3; clear cx3; (first | rw [cx3b0] | (simp only [i64_w, i32_w]; rw [cx3b0]) | skip); replace H := Option.bind_eq_some_iff.mp H; obtain ⟨tx4, Ay4, H⟩ := H; have Ax4 := a_ Ay4; clear Ay4; have H' := a_ H; clear H; have p132 : 0 ≤ (a1 : Int) := of_decide_eq_true y2_; have q132 : a1 < (l0.length : Int) := of_decide_eq_true y2_; obtain ⟨ad132, e132, hx132_0, hx132_1, hx132_2, hx132_3⟩ := at_T74 (Kd.C_kept_now HR0.out HK.out) a1 p132 q132; obtain rfl : ad131 = ad132 := (by injection e132); replace p132 := eq_true p132; replace q132 := eq_true q132; go_wp2_with (first | ((with_reducible refine gate_callee (f := 59) rfl ?_); refine gc_ 59 24 Try.func59 #[.slice (some ad131) l0.length c0, .int .i64 ((rd_T74 l0 a1).f2), .slice Ao9 l2.length co9] ?_; (with_reducible refine (ih k y88_ _ _ l0 ((rd_T74 l0 a1).f2) (fun k_ => some k_ = (.slice Ao9 l2.length co9 : Value).ownBlock) (.slice Ao9 l2.length co9) l2 tx4 w0 _ ?side1 ?side2 ?side3 ?side4 Ax4.out).mono ?_); (case side1 => repeat (first | (with_reducible first | exact HB.out | apply below_alloc | apply pw_below_drewN | apply below_drew1) | exact HB.out)); (case side2 => exact Kd.C_kept_call HR0.out y34_ (fun k_ hs_ => (fun e_ => (HO2.out.1 k_ e_.symm)) hs_)); (case side3 => exact HC0.out); (case side4 => exact Kd.R_tight rfl HO2.out); rintro e w12 ⟨v134, rfl, ho0, hb, hkp⟩; refine ⟨_, rfl, ?_⟩; have n0_ := a_ (Kd.R_mono (ok' := fun k_ => (P2_ k_ ∨ w.heap.size ≤ k_)) ho0 (fun k_ hk_ => Or.elim hk_ (fun hs_ => (HO2.out.1 k_ (hs_).symm)) (fun hn_ => (.inr (Nat.le_trans y54_ hn_))))); have n1_ := a_ (Kept.then_ (S := (fun k_ => P2_ k_)) y34_ hkp (fun k_ hs_ => (fun e_ => (HO2.out.1 k_ e_.symm)) hs_)); have n2_ := a_ (hb); clear HK; clear HB; clear HO2; have HO135 := n0_; have HK := n1_; have HB := n2_; clear n0_ n1_ n2_; (try clear hb); (try clear hkp); (try clear ho0)))
      go_meet
      case rel => exact ⟨_, (tx4), H', ⟨y45_⟩, ⟨by (with_reducible repeat (first | apply Kd.R_alloc | apply Kd.R_drewN | apply Kd.R_drew)); exact HO135.out⟩, ⟨y34_⟩, ⟨y0_⟩⟩
     ·rw [if_neg cx3] at H; have cx3b0 : decide (2 < ((rd_T74 l0 a1).f0)) = false := decide_eq_false cx3; clear cx3; (first | rw [cx3b0] | (simp only [i64_w, i32_w]; rw [cx3b0]) | skip); have H' := a_ H; clear H; go_wp2
      go_meet
      case rel => exact ⟨_, (l2), H', ⟨y45_⟩, ⟨by (with_reducible repeat (first | apply Kd.R_alloc | apply Kd.R_drewN | apply Kd.R_drew)); exact HO2.out⟩, ⟨y34_⟩, ⟨y0_⟩⟩
    case rest =>
     clear HC8; (try clear cx0); (try clear cx0b0); (try clear cx0b1); (try clear cx1); (try clear cx1b0); (try clear cx2); (try clear cx2b0); (try clear hx131_0); (try clear hx131_1); (try clear hx131_2); (try clear hx131_3); (try clear p131); (try clear q131); obtain ⟨kq, x2_7, HA, HJ7, HO_2, HK, HB⟩ := hcut; cases kq with
     | zero => exact absurd HA.out (by simp [spec_l3Walk.j0])
     | succ kj7 =>
      have H := HA.out; clear HA; simp only [spec_l3Walk.j0] at H; by_cases cx3 : 0 ≤ a1; rw [if_pos cx3] at H; have cx3b0 : decide (0 ≤ a1) = true := decide_eq_true cx3; clear cx3; by_cases cx4 : a1 < (l0.length : Int); rw [if_pos cx4] at H; have cx4b0 : decide (a1 < (l0.length : Int)) = true := decide_eq_true cx4; clear cx4; replace H := Option.bind_eq_some_iff.mp H; obtain ⟨tx5, Ay5, H⟩ := H; have Ax5 := a_ Ay5; clear Ay5; by_cases cx6 : tx5 = true; subst cx6; rw [if_pos rfl] at H; replace H := Option.bind_eq_some_iff.mp H; obtain ⟨tx7, Ay7, H⟩ := H; have Ax7 := a_ Ay7; clear Ay7; by_cases cx8 : tx7.length < 17592186044416; rw [if_pos cx8] at H; have LMcx8 := a_ cx8; clear cx8; obtain ⟨y142, hy_⟩ : ∃ y_ : List Int, y_ = (tx7 ++ [a1]) := ⟨_, rfl⟩; replace H : (some y142) = some r := z0_; have Ny142 := a_ hy_; clear hy_; obtain rfl := Option.some.inj H; have m1_0 := t_; have m1_1 := t_; have m1_4 := t_; rotate_left
      ·rw [if_neg cx8] at H; exact absurd H y57_
      replace cx6 := Bool.eq_false_iff.mpr cx6; subst cx6; rw [if_neg (show ¬ (false = true) by decide)] at H; by_cases cx7 : x2_7.length < 17592186044416; rw [if_pos cx7] at H; have LMcx7 := a_ cx7; clear cx7; obtain ⟨y145, hy_⟩ : ∃ y_ : List Int, y_ = (x2_7 ++ [a1]) := ⟨_, rfl⟩; replace H : (some y145) = some r := z0_; have Ny145 := a_ hy_; clear hy_; obtain rfl := Option.some.inj H; have m1_2 := t_; have m1_3 := t_; have m1_5 := t_; rotate_left
      ·rw [if_neg cx7] at H; exact absurd H y57_
      ·rw [if_neg cx4] at H; exact absurd H y57_
      ·rw [if_neg cx3] at H; exact absurd H y57_
      all_goals (
       have p9922068 : 0 ≤ (a1 : Int) := of_decide_eq_true y2_; have q9922068 : a1 < (l0.length : Int) := of_decide_eq_true y2_; obtain ⟨ad9922068, e9922068, hx9922068_0, hx9922068_1, hx9922068_2, hx9922068_3⟩ := at_T74 (Kd.C_kept_now HR0.out HK.out) a1 p9922068 q9922068; obtain rfl : ad131 = ad9922068 := (by injection e9922068); replace p9922068 := eq_true p9922068; replace q9922068 := eq_true q9922068
       go_wp2_with (first | (have mkq_ := m1_0; clear mkq_; (with_reducible refine gate_callee (f := 66) rfl ?_); refine gc_ 66 30 Try.func66 #[.int .i64 ((rd_T74 l0 a1).f0)] ?_; (with_reducible refine (spec_l3Two.calls ((rd_T74 l0 a1).f0) _ _ Ax5.out).mono ?_); rintro e w' ⟨rfl, ⟨nd, rfl⟩⟩; refine ⟨_, rfl, ?_⟩; have p9762652 : 0 ≤ (a1 : Int) := of_decide_eq_true y2_; have q9762652 : a1 < (l0.length : Int) := of_decide_eq_true y2_; obtain ⟨ad9762652, e9762652, hx9762652_0, hx9762652_1, hx9762652_2, hx9762652_3⟩ := at_T74 (Kd.C_kept_now HR0.out HK.out) a1 p9762652 q9762652; obtain rfl : ad131 = ad9762652 := (by injection e9762652); replace p9762652 := eq_true p9762652; replace q9762652 := eq_true q9762652; obtain ⟨Ao9868464, co9868464, eo9868464⟩ := Kd.R_slice HO_2.out; subst eo9868464) | ((with_reducible refine gate_callee (f := 59) rfl ?_); refine gc_ 59 38 Try.func59 #[.slice (some ad131) l0.length c0, .int .i64 ((rd_T74 l0 a1).f3), .slice Ao9868464 x2_7.length co9868464] ?_; (with_reducible refine (ih kj7 (by have := HJ7.out; omega) _ _ l0 ((rd_T74 l0 a1).f3) (fun k_ => some k_ = (.slice Ao9868464 x2_7.length co9868464 : Value).ownBlock) (.slice Ao9868464 x2_7.length co9868464) x2_7 tx7 w0 _ ?side1 ?side2 ?side3 ?side4 Ax7.out).mono ?_); (case side1 => repeat (first | (with_reducible first | exact HB.out | apply below_alloc | apply pw_below_drewN | apply below_drew1) | exact HB.out)); (case side2 => exact Kd.C_kept_call HR0.out y34_ (fun k_ hs_ => (fun e_ => (HO_2.out.1 k_ e_.symm)) hs_)); (case side3 => exact HC0.out); (case side4 => exact Kd.R_tight rfl HO_2.out); rintro e w9065353 ⟨v9368352, rfl, ho0, hb, hkp⟩; refine ⟨_, rfl, ?_⟩; have n0_ := a_ (Kd.R_mono (ok' := fun k_ => (P2_ k_ ∨ w.heap.size ≤ k_)) ho0 (fun k_ hk_ => Or.elim hk_ (fun hs_ => (HO_2.out.1 k_ (hs_).symm)) (fun hn_ => (.inr (Nat.le_trans y54_ hn_))))); have n1_ := a_ (Kept.then_ (S := (fun k_ => P2_ k_)) y34_ hkp (fun k_ hs_ => (fun e_ => (HO_2.out.1 k_ e_.symm)) hs_)); have n2_ := a_ (hb); clear HK; clear HB; clear HO_2; have HO9186473 := n0_; have HK := n1_; have HB := n2_; clear n0_ n1_ n2_; (try clear hb); (try clear hkp); (try clear ho0)) | (have mkq_ := m1_1; clear mkq_; (with_reducible refine gate_builtin (b := .append) (xs := #[.tmp 39, .tmp 41]) rfl ?_); at_builtin; refine Kd.R_append (Kd.int .i64) (w0 := w0) w0.heap.size rfl (.tmp 39) (.tmp 41) 39 2 (.int .i64 0) 8 rfl Try.underlying39 info2 rfl y36_ y88_ v9368352 tx7 a1 [.int .i64 a1] (fun k_ => (P2_ k_ ∨ w.heap.size ≤ k_)) (fun _ => False) rfl rfl ?aP (fun _ hk => hk.elim) ?aF ?aO ?aB ?aS ?aL ?_; (case aP => exact rfl); (case aB => exact y0_); (case aF => exact (fun k_ hk => (.inr (Nat.le_trans y54_ hk)))); (case aO => exact (by (with_reducible repeat (first | apply Kd.R_alloc | apply Kd.R_drewN | apply Kd.R_drew)); exact HO9186473.out)); (case aS => exact (below_size y0_)); (case aL => have := LMcx8.out; omega); intro v9524357 w9833851 ho hb hg hat; rw [← Ny142.out] at ho; have n0_ := a_ (hb); have n1_ := a_ (Kept.of_grown (S := (fun k_ => P2_ k_)) hg y34_ (fun k_ e_ => (HO9186473.out.1 k_ e_))); have n2_ := a_ (ho); clear HB; clear HK; clear HO9186473; have HB := n0_; have HK := n1_; have HO9205366 := n2_; clear n0_ n1_ n2_; clear ho hb hg hat) | (have mkq_ := m1_2; clear mkq_; (with_reducible refine gate_callee (f := 66) rfl ?_); refine gc_ 66 30 Try.func66 #[.int .i64 ((rd_T74 l0 a1).f0)] ?_; (with_reducible refine (spec_l3Two.calls ((rd_T74 l0 a1).f0) _ _ Ax5.out).mono ?_); rintro e w' ⟨rfl, ⟨nd, rfl⟩⟩; refine ⟨_, rfl, ?_⟩) | (have mkq_ := m1_3; clear mkq_; (with_reducible refine gate_builtin (b := .append) (xs := #[.tmp 39, .tmp 41]) rfl ?_); at_builtin; refine Kd.R_append (Kd.int .i64) (w0 := w0) w0.heap.size rfl (.tmp 39) (.tmp 41) 39 2 (.int .i64 0) 8 rfl Try.underlying39 info2 rfl y36_ y88_ u2 x2_7 a1 [.int .i64 a1] (fun k_ => (P2_ k_ ∨ w.heap.size ≤ k_)) (fun _ => False) rfl rfl ?aP (fun _ hk => hk.elim) ?aF ?aO ?aB ?aS ?aL ?_; (case aP => exact rfl); (case aB => exact y0_); (case aF => exact (fun k_ hk => (.inr (Nat.le_trans y54_ hk)))); (case aO => exact (by (with_reducible repeat (first | apply Kd.R_alloc | apply Kd.R_drewN | apply Kd.R_drew)); exact HO_2.out)); (case aS => exact (below_size y0_)); (case aL => have := LMcx7.out; omega); intro v9644220 w9682173 ho hb hg hat; rw [← Ny145.out] at ho; have n0_ := a_ (hb); have n1_ := a_ (Kept.of_grown (S := (fun k_ => P2_ k_)) hg y34_ (fun k_ e_ => (HO_2.out.1 k_ e_))); have n2_ := a_ (ho); clear HB; clear HK; clear HO_2; have HB := n0_; have HK := n1_; have HO9034215 := n2_; clear n0_ n1_ n2_; clear ho hb hg hat))
       go_ret
       first
       | fail_if_success clear m1_4
       |(clear m1_4; exact ⟨_, y4_, by (with_reducible repeat (first | apply Kd.R_alloc | apply Kd.R_drewN | apply Kd.R_drew)); exact HO9205366.out, y0_, y34_⟩)
       first
       | fail_if_success clear m1_5
       |(clear m1_5; exact ⟨_, y4_, by (with_reducible repeat (first | apply Kd.R_alloc | apply Kd.R_drewN | apply Kd.R_drew)); exact HO9034215.out, y0_, y34_⟩))
   ·rw [if_neg cx2] at H; exact absurd H y57_
  ·rw [if_neg cx1] at H; exact absurd H y57_

/-! ### spec_l3Fault: function 42 -/
mutual
def spec_l3Fault.j0 : Nat → List (S74) → Bool → Option (Int)
  | 0, _, _ => none
  | k + 1, x0, x14 => if x14 = true then (some 2) else (spec_l3Fault.l0 k x0 0)
def spec_l3Fault.l0 : Nat → List (S74) → Int → Option (Int)
  | 0, _, _ => none
  | k + 1, x0, x3 => if x3 < (x0.length : Int) then (if 0 ≤ x3 then ((spec_l3Node.f k (rd_T74 x0 x3) x3).bind fun t149 => (if t149 = 0 then (spec_l3Fault.l0 k x0 (wrap64 (x3 + 1))) else (some t149))) else (none)) else ((spec_l3Walk.f k x0 (wrap64 ((x0.length : Int) - 1)) ([] : List Int)).bind fun t150 => (if (t150.length : Int) = (x0.length : Int) then (spec_l3Fault.l1 k t150 0) else (some 1)))
def spec_l3Fault.l1 : Nat → List Int → Int → Option (Int)
  | 0, _, _ => none
  | k + 1, x5, x6 => if x6 < (x5.length : Int) then (if 0 ≤ x6 then (if (rd x5 x6) = x6 then (spec_l3Fault.l1 k x5 (wrap64 (x6 + 1))) else (some 1)) else (none)) else (some 0)
end
def spec_l3Fault.f (k : Nat) (l0 : List (S74)) : Option (Int) := if (l0.length : Int) < 1 then (spec_l3Fault.j0 k l0 true) else (spec_l3Fault.j0 k l0 (decide ((l0.length : Int) > 16)))
theorem spec_l3Fault.mono_l : ∀ k, (∀ y0 y1, LeO (spec_l3Fault.j0 k y0 y1) (spec_l3Fault.j0 (k + 1) y0 y1)) ∧ (∀ y0 y1, LeO (spec_l3Fault.l0 k y0 y1) (spec_l3Fault.l0 (k + 1) y0 y1)) ∧ (∀ y0 y1, LeO (spec_l3Fault.l1 k y0 y1) (spec_l3Fault.l1 (k + 1) y0 y1))
  | 0 => ⟨fun _ _ r h => by simp [spec_l3Fault.j0] at h, fun _ _ r h => by simp [spec_l3Fault.l0] at h, fun _ _ r h => by simp [spec_l3Fault.l1] at h⟩
  | k + 1 => by
    obtain ⟨ih0, ih1, ih2⟩ := spec_l3Fault.mono_l k
    refine ⟨?_, ?_, ?_⟩
    · intro y0 y1
      unfold spec_l3Fault.j0
      repeat' (with_reducible first | exact ih0 _ _ | exact ih1 _ _ | exact ih2 _ _ | exact spec_l3Node.mono _ _ _ | exact spec_l3Walk.mono _ _ _ _ | exact LeO.refl _ | exact LeO.none _ | refine LeO.ite ?_ ?_ | refine LeO.bind ?_ (fun _ => ?_))
    · intro y0 y1
      unfold spec_l3Fault.l0
      repeat' (with_reducible first | exact ih0 _ _ | exact ih1 _ _ | exact ih2 _ _ | exact spec_l3Node.mono _ _ _ | exact spec_l3Walk.mono _ _ _ _ | exact LeO.refl _ | exact LeO.none _ | refine LeO.ite ?_ ?_ | refine LeO.bind ?_ (fun _ => ?_))
    · intro y0 y1
      unfold spec_l3Fault.l1
      repeat' (with_reducible first | exact ih0 _ _ | exact ih1 _ _ | exact ih2 _ _ | exact spec_l3Node.mono _ _ _ | exact spec_l3Walk.mono _ _ _ _ | exact LeO.refl _ | exact LeO.none _ | refine LeO.ite ?_ ?_ | refine LeO.bind ?_ (fun _ => ?_))
theorem spec_l3Fault.mono : ∀ a0 k, LeO (spec_l3Fault.f k a0) (spec_l3Fault.f (k + 1) a0) := by
  intro a0 k
  obtain ⟨ih0, ih1, ih2⟩ := spec_l3Fault.mono_l k
  unfold spec_l3Fault.f
  repeat' (with_reducible first | exact ih0 _ _ | exact ih1 _ _ | exact ih2 _ _ | exact spec_l3Node.mono _ _ _ | exact spec_l3Walk.mono _ _ _ _ | exact LeO.refl _ | exact LeO.none _ | refine LeO.ite ?_ ?_ | refine LeO.bind ?_ (fun _ => ?_))
set_option maxHeartbeats 8000000 in
set_option maxRecDepth 100000 in
theorem spec_l3Fault.calls (k : Nat) (A0 : Option Addr) (c0 : Nat) (l0 : List (S74)) (r : Int) (w : World) (hr0 : Kd.C k74 w A0 l0.length l0) (hc0 : l0.length ≤ c0) (h : spec_l3Fault.f k l0 = some r) :
    Calls Try.prog 42 #[.slice A0 l0.length c0] w fun e w' => e = .returned (.int .i64 r) ∧ Below w.heap.size w w' := by
 have HR0 := a_ hr0; have HC0 := a_ hc0; clear hr0 hc0; have HB := a_ (Below.refl w.heap.size w); have H : (if (l0.length : Int) < 1 then (spec_l3Fault.j0 k l0 true) else (spec_l3Fault.j0 k l0 (decide ((l0.length : Int) > 16)))) = some r := h; clear h; have HC2 := a_ H; clear H; go_enter Try.func42, Try.ntmps42
 go_upto_region 1 with (fail)
 go_cut [14] (fun v14 wc => ∃ (kq : Nat) (x14_1 : Bool), v14 = .bool x14_1 ∧ Aside0 (spec_l3Fault.j0 kq l0 x14_1 = some r) ∧ Aside0 (kq ≤ k) ∧ Aside0 (Below w.heap.size w wc))
 case first =>
  have H := HC2.out; clear HC2; by_cases cx0 : (l0.length : Int) < 1
  ·rw [if_pos cx0] at H; have cx0b0 : decide ((l0.length : Int) < 1) = true := decide_eq_true cx0; have cx0b1 : decide (l0.length < 1) = true := decide_eq_true y88_; clear cx0; (first | rw [cx0b0] | (simp only [i64_w, i32_w]; rw [cx0b0]) | skip); have H' := a_ H; clear H; go_wp2
   go_meet
   case rel => exact ⟨_, (true), y1_, H', ⟨y45_⟩, ⟨y0_⟩⟩
  ·rw [if_neg cx0] at H; have cx0b0 : decide ((l0.length : Int) < 1) = false := decide_eq_false cx0; have cx0b1 : decide (l0.length < 1) = false := decide_eq_false y88_; clear cx0; (first | rw [cx0b0] | (simp only [i64_w, i32_w]; rw [cx0b0]) | skip); have H' := a_ H; clear H; go_wp2
   go_meet
   case rel => exact ⟨_, (decide ((l0.length : Int) > 16)), y1_, H', ⟨y45_⟩, ⟨y0_⟩⟩
 case rest =>
  clear HC2; obtain ⟨kq, x14_1, rfl, HA, HJ1, HB⟩ := hcut; cases kq with
  | zero => exact absurd HA.out (by simp [spec_l3Fault.j0])
  | succ kj1 =>
   have H := HA.out; clear HA; simp only [spec_l3Fault.j0] at H; by_cases cx0 : x14_1 = true
   ·subst cx0; rw [if_pos rfl] at H; obtain rfl := Option.some.inj H; go_wp2
    go_ret
    exact ⟨y4_, y0_⟩
   ·replace cx0 := Bool.eq_false_iff.mpr cx0; subst cx0; rw [if_neg (show ¬ (false = true) by decide)] at H; have H' := a_ H; clear H; go_wp2
    go_loopg [3] kj1 (fun kq v3 w' => ∃ (x3_2 : Int), v3 = .int .i64 x3_2 ∧ Aside0 (spec_l3Fault.l0 kq l0 x3_2 = some r) ∧ Aside0 (kq ≤ kj1) ∧ Aside0 (Below w.heap.size w w'))
    case atStart => exact ⟨(0), y1_, H', ⟨Nat.le_refl _⟩, ⟨y0_⟩⟩
    case round =>
     clear H'; (try clear cx0); obtain ⟨x3_2, rfl, HA, HK2, HB⟩ := hrel; cases gk with
     | zero => exact absurd HA.out (by simp [spec_l3Fault.l0])
     | succ k2 =>
      have H := HA.out; clear HA; simp only [spec_l3Fault.l0] at H; by_cases cx1 : x3_2 < (l0.length : Int); rw [if_pos cx1] at H; have cx1b0 : decide (x3_2 < (l0.length : Int)) = true := decide_eq_true cx1; clear cx1; by_cases cx2 : 0 ≤ x3_2; rw [if_pos cx2] at H; have cx2b0 : decide (0 ≤ x3_2) = true := decide_eq_true cx2; clear cx2; replace H := Option.bind_eq_some_iff.mp H; obtain ⟨tx3, Ay3, H⟩ := H; have Ax3 := a_ Ay3; clear Ay3; by_cases cx4 : tx3 = 0; rw [if_pos cx4] at H; have cx4b0 : (tx3 == 0) = true := beq_iff_eq.mpr cx4; have cx4b1 : (tx3 != 0) = false := bne_eq_false_iff_eq.mpr cx4; clear cx4; have H' := a_ H; clear H; have m1_0 := t_; have m1_1 := t_; rotate_left; rw [if_neg cx4] at H; have cx4b0 : (tx3 == 0) = false := beq_eq_false_iff_ne.mpr cx4; have cx4b1 : (tx3 != 0) = true := bne_iff_ne.mpr cx4; obtain rfl := Option.some.inj H; have m1_0 := t_; have m1_2 := t_; rotate_left
      ·rw [if_neg cx2] at H; exact absurd H y57_
      rw [if_neg cx1] at H; have cx1b0 : decide (x3_2 < (l0.length : Int)) = false := decide_eq_false cx1; clear cx1; replace H := Option.bind_eq_some_iff.mp H; obtain ⟨tx2, Ay2, H⟩ := H; have Ax2 := a_ Ay2; clear Ay2; by_cases cx3 : (tx2.length : Int) = (l0.length : Int); rw [if_pos cx3] at H; have cx3b0 : ((tx2.length : Int) == (l0.length : Int)) = true := beq_iff_eq.mpr cx3; have cx3b1 : ((tx2.length : Int) != (l0.length : Int)) = false := bne_eq_false_iff_eq.mpr cx3; have cx3b2 : (tx2.length == l0.length) = true := by first | simpa using cx3 | (simp at cx3 ⊢; omega)
      clear cx3; have H' := a_ H; clear H; have m1_3 := t_; rotate_left; rw [if_neg cx3] at H; have cx3b0 : ((tx2.length : Int) == (l0.length : Int)) = false := beq_eq_false_iff_ne.mpr cx3; have cx3b1 : ((tx2.length : Int) != (l0.length : Int)) = true := bne_iff_ne.mpr cx3; have cx3b2 : (tx2.length == l0.length) = false := by first | simpa using cx3 | (simp at cx3 ⊢; omega)
      obtain rfl := Option.some.inj H; have m1_4 := t_; rotate_left
      all_goals (
       first
       | fail_if_success clear m1_0
       |(clear m1_0; have p9922068 : 0 ≤ (x3_2 : Int) := of_decide_eq_true y2_; have q9922068 : x3_2 < (l0.length : Int) := of_decide_eq_true y2_; have BD148 := a_ (And.intro p9922068 q9922068); obtain ⟨ad9922068, e9922068, hx9922068_0, hx9922068_1, hx9922068_2, hx9922068_3⟩ := at_T74 HR0.out x3_2 p9922068 q9922068; cases e9922068; replace hx9922068_0 := cT_ HB.out hx9922068_0; replace hx9922068_1 := cT_ HB.out hx9922068_1; replace hx9922068_2 := cT_ HB.out hx9922068_2; replace hx9922068_3 := cT_ HB.out hx9922068_3; replace p9922068 := eq_true p9922068; replace q9922068 := eq_true q9922068)
       go_wp2_with (first | ((with_reducible refine gate_callee (f := 58) rfl ?_); refine gc_ 58 25 Try.func58 #[.pointer (some (ad9922068.add ((x3_2).toNat * 4))), .int .i64 x3_2] ?_; (with_reducible refine (spec_l3Node.calls k2 _ (rd_T74 l0 x3_2) x3_2 tx3 _ ?side1 Ax3.out).mono ?_); (case side1 => refine C_one y91_ x3_2 (by first | exact BD148.out.1 | omega | exact of_decide_eq_true y2_) (by first | exact BD148.out.2 | exact of_decide_eq_true y2_ | omega) _ rfl); rintro e w' ⟨rfl, ⟨nd, rfl⟩⟩; refine ⟨_, rfl, ?_⟩) | ((with_reducible refine gate_callee (f := 59) rfl ?_); refine gc_ 59 33 Try.func59 #[.slice A0 l0.length c0, .int .i64 (wrap64 ((l0.length : Int) - 1)), .slice none 0 0] ?_; (refine (spec_l3Walk.calls k2 _ _ l0 (wrap64 ((l0.length : Int) - 1)) (fun k_ => some k_ = (.slice none 0 0 : Value).ownBlock) (.slice none 0 0) ([] : List Int) tx2 w _ ?side1 ?side2 ?side3 ?side4 Ax2.out).mono ?_); (case side1 => repeat (first | (with_reducible first | exact HB.out | apply below_alloc | apply pw_below_drewN | apply below_drew1) | exact HB.out)); (case side2 => exact Kd.C_kept_came k74_heap HR0.out y0_ (fun k_ hs_ => (fun e_ => by simp [Value.ownBlock] at e_) hs_)); (case side3 => exact HC0.out); (case side4 => exact Kd.R_nil _ _ _ _ _); rintro e w9477828 ⟨v9409412, rfl, ho0, hb, hkp⟩; refine ⟨_, rfl, ?_⟩; have n0_ := a_ (Kd.R_mono (ok' := fun k_ => True) ho0 (fun k_ hk_ => trivial)); have n1_ := a_ (hb); clear HB; have HO9405954 := n0_; have HB := n1_; clear n0_ n1_; (try clear hb); (try clear hkp); (try clear ho0); obtain ⟨Ao9736130, co9736130, eo9736130⟩ := Kd.R_slice HO9405954.out; subst eo9736130))
       first
       | fail_if_success clear m1_1
       |(clear m1_1; go_roundg k2
         case measure => have := HJ1.out; have := HK2.out; omega
         case rel => exact ⟨(wrap64 (x3_2 + 1)), y1_, H', ⟨by have := HJ1.out; have := HK2.out; omega⟩, ⟨y0_⟩⟩)
       first
       | fail_if_success clear m1_2
       |(clear m1_2; go_ret
         exact ⟨y4_, y0_⟩)
       first
       | fail_if_success clear m1_3
       |(clear m1_3; go_loopg [6] k2 (fun kq v9234267 w' => ∃ (x6_3 : Int), v9234267 = .int .i64 x6_3 ∧ Aside0 (spec_l3Fault.l1 kq tx2 x6_3 = some r) ∧ Aside0 (kq ≤ k2) ∧ Aside0 (Kd.R (Kd.int .i64) 2 w' w.heap.size (fun _ => True) (.slice Ao9736130 tx2.length co9736130) tx2) ∧ Aside0 (Below w.heap.size w w'))
         case atStart => exact ⟨(0), y1_, H', ⟨Nat.le_refl _⟩, ⟨by (with_reducible repeat (first | apply Kd.R_alloc | apply Kd.R_drewN | apply Kd.R_drew)); exact HO9405954.out⟩, ⟨y0_⟩⟩
         case round =>
          clear H'; (try clear cx0); (try clear cx1); (try clear cx1b0); (try clear cx3); (try clear cx3b0); (try clear cx3b1); (try clear cx3b2); obtain ⟨x6_3, rfl, HA, HK9487065, HO_5, HB⟩ := hrel; cases gk with
          | zero => exact absurd HA.out (by simp [spec_l3Fault.l1])
          | succ k3 =>
           have H := HA.out; clear HA; simp only [spec_l3Fault.l1] at H; by_cases cx4 : x6_3 < (tx2.length : Int); rw [if_pos cx4] at H; have cx4b0 : decide (x6_3 < (tx2.length : Int)) = true := decide_eq_true cx4; clear cx4; by_cases cx5 : 0 ≤ x6_3; rw [if_pos cx5] at H; have cx5b0 : decide (0 ≤ x6_3) = true := decide_eq_true cx5; clear cx5; by_cases cx6 : (rd tx2 x6_3) = x6_3; rw [if_pos cx6] at H; have cx6b0 : ((rd tx2 x6_3) == x6_3) = true := beq_iff_eq.mpr cx6; have cx6b1 : ((rd tx2 x6_3) != x6_3) = false := bne_eq_false_iff_eq.mpr cx6; clear cx6; have H' := a_ H; clear H; have m2_0 := t_; have m2_1 := t_; rotate_left; rw [if_neg cx6] at H; have cx6b0 : ((rd tx2 x6_3) == x6_3) = false := beq_eq_false_iff_ne.mpr cx6; have cx6b1 : ((rd tx2 x6_3) != x6_3) = true := bne_iff_ne.mpr cx6; obtain rfl := Option.some.inj H; have m2_0 := t_; have m2_2 := t_; rotate_left
           ·rw [if_neg cx5] at H; exact absurd H y57_
           rw [if_neg cx4] at H; have cx4b0 : decide (x6_3 < (tx2.length : Int)) = false := decide_eq_false cx4; clear cx4; obtain rfl := Option.some.inj H; have m2_3 := t_; rotate_left
           all_goals (
            first
            | fail_if_success clear m2_0
            |(clear m2_0; have p9922068 : 0 ≤ (x6_3 : Int) := of_decide_eq_true y2_; have q9922068 : x6_3 < (tx2.length : Int) := of_decide_eq_true y2_; obtain ⟨ad9922068, e9922068, hx9922068_0⟩ := Kd.at_int (Kd.R_reads' HO_5.out).2.2 x6_3 p9922068 q9922068; cases e9922068; replace p9922068 := eq_true p9922068; replace q9922068 := eq_true q9922068; go_wp2)
            first
            | fail_if_success clear m2_1
            |(clear m2_1; go_roundg k3
              case measure => have := HJ1.out; have := HK2.out; have := HK9487065.out; omega
              case rel => exact ⟨(wrap64 (x6_3 + 1)), y1_, H', ⟨by have := HJ1.out; have := HK2.out; have := HK9487065.out; omega⟩, ⟨y68_⟩, ⟨y0_⟩⟩)
            first
            | fail_if_success clear m2_2
            |(clear m2_2; go_ret
              exact ⟨y4_, y0_⟩)
            first
            | fail_if_success clear m2_3
            |(clear m2_3; go_wp2
              go_ret
              exact ⟨y4_, y0_⟩)))
       first
       | fail_if_success clear m1_4
       |(clear m1_4; go_ret
         exact ⟨y4_, y0_⟩))

end Go.Proofs.Ytjbcpghpafacaaa.I
