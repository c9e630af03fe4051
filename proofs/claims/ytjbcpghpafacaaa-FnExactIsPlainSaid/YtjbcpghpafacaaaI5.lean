-- Written by a program of this session's own (xp.py) for this seat.
import Derived.Test.YtjbcpghpafacaaaIZ
import Derived.Test.YtjbcpghpafacaaaI0
namespace Go.Proofs.Ytjbcpghpafacaaa.I
open Go.RowKit Go.Proofs.YtjbcpghpafacaaaW.PrintWords Go.Proofs.YtjbcpghpafacaaaW.PrintLast Go.Proofs.YtjbcpghpafacaaaW.PrintMore
attribute [local go_sem] Instr.field asAgg
attribute [local go_sem] max2_int min2_int max_two min_two max_three min_three max_four min_four   -- for this text's walks alone
set_option linter.unusedVariables false
set_option linter.unusedSimpArgs false

/-! ### spec_l1In: function 36 -/
def spec_l1In.f (a0 : Int) (a1 : Int) (a2 : Int) : Option (Bool) := if a0 ≥ a1 then (some (decide (a0 ≤ a2))) else (some false)
set_option maxHeartbeats 8000000 in
set_option maxRecDepth 100000 in
theorem spec_l1In.calls (a0 : Int) (a1 : Int) (a2 : Int) (r : Bool) (w : World) (h : spec_l1In.f a0 a1 a2 = some r) :
    Calls Try.prog 36 #[.int .i64 a0, .int .i64 a1, .int .i64 a2] w fun e w' => e = .returned (.bool r) ∧ Drawn0 w w' := by
 have H : (if a0 ≥ a1 then (some (decide (a0 ≤ a2))) else (some false)) = some r := h; clear h; by_cases c4 : a0 ≥ a1
 ·rw [if_pos c4] at H; have c4b0 : decide (a1 ≤ a0) = true := decide_eq_true c4; clear c4; obtain rfl := Option.some.inj H; go_enter Try.func36, Try.ntmps36
  go_wp2
  go_ret
  exact ⟨y1_, y9_⟩
 ·rw [if_neg c4] at H; have c4b0 : decide (a1 ≤ a0) = false := decide_eq_false c4; clear c4; obtain rfl := Option.some.inj H; go_enter Try.func36, Try.ntmps36
  go_wp2
  go_ret
  exact ⟨y1_, y9_⟩

/-! ### spec_l4Bare: function 37 -/
def spec_l4Bare.f (a0 : S37) : Option (Bool) := (spec_l1In.f ((rd_T37 [a0] 0).f0) 5 8).bind fun t107 => (if ((rd_T37 [a0] 0).f0) = 2 then (if t107 = true then (if ((rd_T37 [a0] 0).f0) = 7 then (some true) else (some ((((rd_T37 [a0] 0).f5).length : Int) == 0))) else (if ((rd_T37 [a0] 0).f3) = 0 then (if ((rd_T37 [a0] 0).f0) = 7 then (some true) else (some ((((rd_T37 [a0] 0).f5).length : Int) == 0))) else (some false))) else (if ((rd_T37 [a0] 0).f2).toList = ([] : List UInt8) then (if t107 = true then (if ((rd_T37 [a0] 0).f0) = 7 then (some true) else (some ((((rd_T37 [a0] 0).f5).length : Int) == 0))) else (if ((rd_T37 [a0] 0).f3) = 0 then (if ((rd_T37 [a0] 0).f0) = 7 then (some true) else (some ((((rd_T37 [a0] 0).f5).length : Int) == 0))) else (some false))) else (some false)))
set_option maxHeartbeats 8000000 in
set_option maxRecDepth 100000 in
theorem spec_l4Bare.calls (adp0 : Addr) (a0 : S37) (r : Bool) (w : World) (hr0 : Kd.C k37 w (some adp0) 1 [a0]) (h : spec_l4Bare.f a0 = some r) :
    Calls Try.prog 37 #[.pointer (some adp0)] w fun e w' => e = .returned (.bool r) ∧ Drawn0 w w' := by
 have HR0 := a_ hr0; clear hr0; have H : ((spec_l1In.f ((rd_T37 [a0] 0).f0) 5 8).bind fun t107 => (if ((rd_T37 [a0] 0).f0) = 2 then (if t107 = true then (if ((rd_T37 [a0] 0).f0) = 7 then (some true) else (some ((((rd_T37 [a0] 0).f5).length : Int) == 0))) else (if ((rd_T37 [a0] 0).f3) = 0 then (if ((rd_T37 [a0] 0).f0) = 7 then (some true) else (some ((((rd_T37 [a0] 0).f5).length : Int) == 0))) else (some false))) else (if ((rd_T37 [a0] 0).f2).toList = ([] : List UInt8) then (if t107 = true then (if ((rd_T37 [a0] 0).f0) = 7 then (some true) else (some ((((rd_T37 [a0] 0).f5).length : Int) == 0))) else (if ((rd_T37 [a0] 0).f3) = 0 then (if ((rd_T37 [a0] 0).f0) = 7 then (some true) else (some ((((rd_T37 [a0] 0).f5).length : Int) == 0))) else (some false))) else (some false)))) = some r := h; clear h; replace H := Option.bind_eq_some_iff.mp H; obtain ⟨tx0, Ay0, H⟩ := H; have Ax0 := a_ Ay0; clear Ay0; by_cases cx1 : ((rd_T37 [a0] 0).f0) = 2; rw [if_pos cx1] at H; have cx1b0 : (((rd_T37 [a0] 0).f0) == 2) = true := beq_iff_eq.mpr cx1; have cx1b1 : (((rd_T37 [a0] 0).f0) != 2) = false := bne_eq_false_iff_eq.mpr cx1; clear cx1; by_cases cx2 : tx0 = true; subst cx2; rw [if_pos rfl] at H; by_cases cx3 : ((rd_T37 [a0] 0).f0) = 7; rw [if_pos cx3] at H; have cx3b0 : (((rd_T37 [a0] 0).f0) == 7) = true := beq_iff_eq.mpr cx3; have cx3b1 : (((rd_T37 [a0] 0).f0) != 7) = false := bne_eq_false_iff_eq.mpr cx3; clear cx3; obtain rfl := Option.some.inj H; have m0_0 := t_; rotate_left; rw [if_neg cx3] at H; have cx3b0 : (((rd_T37 [a0] 0).f0) == 7) = false := beq_eq_false_iff_ne.mpr cx3; have cx3b1 : (((rd_T37 [a0] 0).f0) != 7) = true := bne_iff_ne.mpr cx3; obtain rfl := Option.some.inj H; have m0_0 := t_; rotate_left; replace cx2 := Bool.eq_false_iff.mpr cx2; subst cx2; rw [if_neg (show ¬ (false = true) by decide)] at H; by_cases cx3 : ((rd_T37 [a0] 0).f3) = 0; rw [if_pos cx3] at H; have cx3b0 : (((rd_T37 [a0] 0).f3) == 0) = true := beq_iff_eq.mpr cx3; have cx3b1 : (((rd_T37 [a0] 0).f3) != 0) = false := bne_eq_false_iff_eq.mpr cx3; clear cx3; by_cases cx4 : ((rd_T37 [a0] 0).f0) = 7; rw [if_pos cx4] at H; have cx4b0 : (((rd_T37 [a0] 0).f0) == 7) = true := beq_iff_eq.mpr cx4; have cx4b1 : (((rd_T37 [a0] 0).f0) != 7) = false := bne_eq_false_iff_eq.mpr cx4; clear cx4; obtain rfl := Option.some.inj H; have m0_0 := t_; rotate_left; rw [if_neg cx4] at H; have cx4b0 : (((rd_T37 [a0] 0).f0) == 7) = false := beq_eq_false_iff_ne.mpr cx4; have cx4b1 : (((rd_T37 [a0] 0).f0) != 7) = true := bne_iff_ne.mpr cx4; obtain rfl := Option.some.inj H; have m0_0 := t_; rotate_left; rw [if_neg cx3] at H; have cx3b0 : (((rd_T37 [a0] 0).f3) == 0) = false := beq_eq_false_iff_ne.mpr cx3; have cx3b1 : (((rd_T37 [a0] 0).f3) != 0) = true := bne_iff_ne.mpr cx3; obtain rfl := Option.some.inj H; have m0_0 := t_; rotate_left; rw [if_neg cx1] at H; have cx1b0 : (((rd_T37 [a0] 0).f0) == 2) = false := beq_eq_false_iff_ne.mpr cx1
 have cx1b1 : (((rd_T37 [a0] 0).f0) != 2) = true := bne_iff_ne.mpr cx1; by_cases cx2 : ((rd_T37 [a0] 0).f2).toList = ([] : List UInt8); rw [if_pos cx2] at H; have cx2b0 : (((rd_T37 [a0] 0).f2).toList == ([] : List UInt8)) = true := beq_iff_eq.mpr cx2; have cx2b1 : (((rd_T37 [a0] 0).f2).toList != ([] : List UInt8)) = false := bne_eq_false_iff_eq.mpr cx2; clear cx2; by_cases cx3 : tx0 = true; subst cx3; rw [if_pos rfl] at H; by_cases cx4 : ((rd_T37 [a0] 0).f0) = 7; rw [if_pos cx4] at H; have cx4b0 : (((rd_T37 [a0] 0).f0) == 7) = true := beq_iff_eq.mpr cx4; have cx4b1 : (((rd_T37 [a0] 0).f0) != 7) = false := bne_eq_false_iff_eq.mpr cx4; clear cx4; obtain rfl := Option.some.inj H; have m0_0 := t_; rotate_left; rw [if_neg cx4] at H; have cx4b0 : (((rd_T37 [a0] 0).f0) == 7) = false := beq_eq_false_iff_ne.mpr cx4; have cx4b1 : (((rd_T37 [a0] 0).f0) != 7) = true := bne_iff_ne.mpr cx4; obtain rfl := Option.some.inj H; have m0_0 := t_; rotate_left; replace cx3 := Bool.eq_false_iff.mpr cx3; subst cx3; rw [if_neg (show ¬ (false = true) by decide)] at H; by_cases cx4 : ((rd_T37 [a0] 0).f3) = 0; rw [if_pos cx4] at H; have cx4b0 : (((rd_T37 [a0] 0).f3) == 0) = true := beq_iff_eq.mpr cx4; have cx4b1 : (((rd_T37 [a0] 0).f3) != 0) = false := bne_eq_false_iff_eq.mpr cx4; clear cx4; by_cases cx5 : ((rd_T37 [a0] 0).f0) = 7; rw [if_pos cx5] at H; have cx5b0 : (((rd_T37 [a0] 0).f0) == 7) = true := beq_iff_eq.mpr cx5; have cx5b1 : (((rd_T37 [a0] 0).f0) != 7) = false := bne_eq_false_iff_eq.mpr cx5; clear cx5; obtain rfl := Option.some.inj H; have m0_0 := t_; rotate_left; rw [if_neg cx5] at H; have cx5b0 : (((rd_T37 [a0] 0).f0) == 7) = false := beq_eq_false_iff_ne.mpr cx5; have cx5b1 : (((rd_T37 [a0] 0).f0) != 7) = true := bne_iff_ne.mpr cx5; obtain rfl := Option.some.inj H; have m0_0 := t_; rotate_left; rw [if_neg cx4] at H; have cx4b0 : (((rd_T37 [a0] 0).f3) == 0) = false := beq_eq_false_iff_ne.mpr cx4; have cx4b1 : (((rd_T37 [a0] 0).f3) != 0) = true := bne_iff_ne.mpr cx4; obtain rfl := Option.some.inj H; have m0_0 := t_; rotate_left; rw [if_neg cx2] at H; have cx2b0 : (((rd_T37 [a0] 0).f2).toList == ([] : List UInt8)) = false := beq_eq_false_iff_ne.mpr cx2; have cx2b1 : (((rd_T37 [a0] 0).f2).toList != ([] : List UInt8)) = true := bne_iff_ne.mpr cx2; obtain rfl := Option.some.inj H; have m0_1 := t_; rotate_left
 all_goals (
  have p9922068 : 0 ≤ (0 : Int) := y88_; have q9922068 : 0 < ([a0].length : Int) := y57_; obtain ⟨ad9922068, A106_4, c106_4, A106_5, c106_5, e9922068, hx9922068_0, hx9922068_1, hx9922068_2, hx9922068_3, hx9922068_4, hx9922068_5, hl9922068_4, hi106_4, hl9922068_5, hi106_5⟩ := at_T37 HR0.out 0 p9922068 q9922068; obtain rfl : adp0 = ad9922068 := (by injection e9922068); have qi106 : (0 < [a0].length) = True := eq_true y88_; (try rw [show ((0 : Int)).toNat = 0 from rfl] at hx9922068_0); (try rw [show 0 * 6 = 0 from rfl] at hx9922068_0); (try rw [Addr.add_zero'] at hx9922068_0); (try rw [show ((0 : Int)).toNat = 0 from rfl] at hx9922068_1); (try rw [show 0 * 6 = 0 from rfl] at hx9922068_1); (try rw [Addr.add_zero'] at hx9922068_1); (try rw [show ((0 : Int)).toNat = 0 from rfl] at hx9922068_2); (try rw [show 0 * 6 = 0 from rfl] at hx9922068_2); (try rw [Addr.add_zero'] at hx9922068_2); (try rw [show ((0 : Int)).toNat = 0 from rfl] at hx9922068_3); (try rw [show 0 * 6 = 0 from rfl] at hx9922068_3); (try rw [Addr.add_zero'] at hx9922068_3); (try rw [show ((0 : Int)).toNat = 0 from rfl] at hx9922068_4); (try rw [show 0 * 6 = 0 from rfl] at hx9922068_4); (try rw [Addr.add_zero'] at hx9922068_4); (try rw [show ((0 : Int)).toNat = 0 from rfl] at hx9922068_5); (try rw [show 0 * 6 = 0 from rfl] at hx9922068_5); (try rw [Addr.add_zero'] at hx9922068_5); have HR106_4 := a_ hi106_4; have HC106_4 := a_ hl9922068_4; clear hi106_4 hl9922068_4; have HR106_5 := a_ hi106_5; have HC106_5 := a_ hl9922068_5; clear hi106_5 hl9922068_5; replace p9922068 := eq_true p9922068; replace q9922068 := eq_true q9922068; go_enter Try.func37, Try.ntmps37
  go_wp2_with (first | (have mkq_ := m0_0; clear mkq_; (with_reducible refine gate_callee (f := 36) rfl ?_); refine gc_ 36 8 Try.func36 #[.int .i64 ((rd_T37 [a0] 0).f0), .int .i64 5, .int .i64 8] ?_; (with_reducible refine (spec_l1In.calls ((rd_T37 [a0] 0).f0) 5 8 _ _ Ax0.out).mono ?_); rintro e w' ⟨rfl, ⟨nd, rfl⟩⟩; refine ⟨_, rfl, ?_⟩) | (have mkq_ := m0_1; clear mkq_; (with_reducible refine gate_callee (f := 36) rfl ?_); refine gc_ 36 8 Try.func36 #[.int .i64 ((rd_T37 [a0] 0).f0), .int .i64 5, .int .i64 8] ?_; (with_reducible refine (spec_l1In.calls ((rd_T37 [a0] 0).f0) 5 8 tx0 _ Ax0.out).mono ?_); rintro e w' ⟨rfl, ⟨nd, rfl⟩⟩; refine ⟨_, rfl, ?_⟩))
  go_ret
  exact ⟨y1_, y9_⟩)

/-! ### spec_l4Line: function 38 -/
def spec_l4Line.l0 : Nat → List (S37) → Int → Int → Option (Bool)
  | 0, _, _, _ => none
  | k + 1, x0, x1, x5 => if x5 ≥ 0 then (if 0 ≤ x1 then (if x1 < (x0.length : Int) then (if x5 = ((rd_T37 x0 x1).f1) then (some true) else (if 0 ≤ x5 then (if x5 < (x0.length : Int) then (spec_l4Line.l0 k x0 x1 ((rd_T37 x0 x5).f1)) else (none)) else (none))) else (none)) else (none)) else (some false)
def spec_l4Line.f (k : Nat) (l0 : List (S37)) (a1 : Int) : Option (Bool) := spec_l4Line.l0 k l0 a1 (wrap64 (a1 - 1))
theorem spec_l4Line.mono_l : ∀ k, (∀ y0 y1 y2, LeO (spec_l4Line.l0 k y0 y1 y2) (spec_l4Line.l0 (k + 1) y0 y1 y2))
  | 0 => fun _ _ _ r h => by simp [spec_l4Line.l0] at h
  | k + 1 => by
    have ih0 := spec_l4Line.mono_l k
    · intro y0 y1 y2
      unfold spec_l4Line.l0
      repeat' (with_reducible first | exact ih0 _ _ _ | exact LeO.refl _ | exact LeO.none _ | refine LeO.ite ?_ ?_ | refine LeO.bind ?_ (fun _ => ?_))
theorem spec_l4Line.mono : ∀ a0 a1 k, LeO (spec_l4Line.f k a0 a1) (spec_l4Line.f (k + 1) a0 a1) := by
  intro a0 a1 k
  have ih0 := spec_l4Line.mono_l k
  unfold spec_l4Line.f
  repeat' (with_reducible first | exact ih0 _ _ _ | exact LeO.refl _ | exact LeO.none _ | refine LeO.ite ?_ ?_ | refine LeO.bind ?_ (fun _ => ?_))
set_option maxHeartbeats 8000000 in
set_option maxRecDepth 100000 in
theorem spec_l4Line.calls (k : Nat) (A0 : Option Addr) (c0 : Nat) (l0 : List (S37)) (a1 : Int) (r : Bool) (w : World) (hr0 : Kd.C k37 w A0 l0.length l0) (hc0 : l0.length ≤ c0) (h : spec_l4Line.f k l0 a1 = some r) :
    Calls Try.prog 38 #[.slice A0 l0.length c0, .int .i64 a1] w fun e w' => e = .returned (.bool r) ∧ Drawn0 w w' := by
 have HR0 := a_ hr0; have HC0 := a_ hc0; clear hr0 hc0; have H : (spec_l4Line.l0 k l0 a1 (wrap64 (a1 - 1))) = some r := h; clear h; have H' := a_ H; clear H; go_enter Try.func38, Try.ntmps38
 go_wp2
 go_loopg [5] k (fun kq v5 w' => ∃ (x5_1 : Int), v5 = .int .i64 x5_1 ∧ Aside0 (spec_l4Line.l0 kq l0 a1 x5_1 = some r) ∧ Aside0 (kq ≤ k) ∧ Drawn0 w w')
 case atStart => exact ⟨(wrap64 (a1 - 1)), y1_, H', ⟨Nat.le_refl _⟩, y9_⟩
 case round =>
  clear H'; obtain ⟨x5_1, rfl, HA, HK1, ⟨m1, rfl⟩⟩ := hrel; cases gk with
  | zero => exact absurd HA.out (by simp [spec_l4Line.l0])
  | succ k1 =>
   have H := HA.out; clear HA; simp only [spec_l4Line.l0] at H; by_cases cx0 : x5_1 ≥ 0; rw [if_pos cx0] at H; have cx0b0 : decide (0 ≤ x5_1) = true := decide_eq_true cx0; clear cx0; by_cases cx1 : 0 ≤ a1; rw [if_pos cx1] at H; have cx1b0 : decide (0 ≤ a1) = true := decide_eq_true cx1; clear cx1; by_cases cx2 : a1 < (l0.length : Int); rw [if_pos cx2] at H; have cx2b0 : decide (a1 < (l0.length : Int)) = true := decide_eq_true cx2; clear cx2; by_cases cx3 : x5_1 = ((rd_T37 l0 a1).f1); rw [if_pos cx3] at H; have cx3b0 : (x5_1 == ((rd_T37 l0 a1).f1)) = true := beq_iff_eq.mpr cx3; have cx3b1 : (x5_1 != ((rd_T37 l0 a1).f1)) = false := bne_eq_false_iff_eq.mpr cx3; clear cx3; obtain rfl := Option.some.inj H; have m0_0 := t_; have m0_1 := t_; rotate_left; rw [if_neg cx3] at H; have cx3b0 : (x5_1 == ((rd_T37 l0 a1).f1)) = false := beq_eq_false_iff_ne.mpr cx3; have cx3b1 : (x5_1 != ((rd_T37 l0 a1).f1)) = true := bne_iff_ne.mpr cx3; by_cases cx4 : 0 ≤ x5_1; rw [if_pos cx4] at H; have cx4b0 : decide (0 ≤ x5_1) = true := decide_eq_true cx4; clear cx4; by_cases cx5 : x5_1 < (l0.length : Int); rw [if_pos cx5] at H; have cx5b0 : decide (x5_1 < (l0.length : Int)) = true := decide_eq_true cx5; clear cx5; have H' := a_ H; clear H; have m0_0 := t_; have m0_2 := t_; rotate_left
   ·rw [if_neg cx5] at H; exact absurd H y57_
   ·rw [if_neg cx4] at H; exact absurd H y57_
   ·rw [if_neg cx2] at H; exact absurd H y57_
   ·rw [if_neg cx1] at H; exact absurd H y57_
   rw [if_neg cx0] at H; have cx0b0 : decide (0 ≤ x5_1) = false := decide_eq_false cx0; clear cx0; obtain rfl := Option.some.inj H; have m0_3 := t_; rotate_left
   all_goals (
    first
    | fail_if_success clear m0_0
    |(clear m0_0; have p9922068 : 0 ≤ (a1 : Int) := of_decide_eq_true y2_; have q9922068 : a1 < (l0.length : Int) := of_decide_eq_true y2_; obtain ⟨ad9922068, A108_4, c108_4, A108_5, c108_5, e9922068, hx9922068_0, hx9922068_1, hx9922068_2, hx9922068_3, hx9922068_4, hx9922068_5, hl9922068_4, hi108_4, hl9922068_5, hi108_5⟩ := at_T37 HR0.out a1 p9922068 q9922068; cases e9922068; have HR108_4 := a_ hi108_4; have HC108_4 := a_ hl9922068_4; clear hi108_4 hl9922068_4; have HR108_5 := a_ hi108_5; have HC108_5 := a_ hl9922068_5; clear hi108_5 hl9922068_5; replace p9922068 := eq_true p9922068; replace q9922068 := eq_true q9922068)
    first
    | fail_if_success clear m0_1
    |(clear m0_1; go_wp2
      go_ret
      exact ⟨y1_, y9_⟩)
    first
    | fail_if_success clear m0_2
    |(clear m0_2; have p9548309 : 0 ≤ (x5_1 : Int) := of_decide_eq_true y2_; have q9548309 : x5_1 < (l0.length : Int) := of_decide_eq_true y2_; obtain ⟨ad9548309, A109_4, c109_4, A109_5, c109_5, e9548309, hx9548309_0, hx9548309_1, hx9548309_2, hx9548309_3, hx9548309_4, hx9548309_5, hl9548309_4, hi109_4, hl9548309_5, hi109_5⟩ := at_T37 HR0.out x5_1 p9548309 q9548309; obtain rfl : ad9922068 = ad9548309 := (by injection e9548309); have HR109_4 := a_ hi109_4; have HC109_4 := a_ hl9548309_4; clear hi109_4 hl9548309_4; have HR109_5 := a_ hi109_5; have HC109_5 := a_ hl9548309_5; clear hi109_5 hl9548309_5; replace p9548309 := eq_true p9548309; replace q9548309 := eq_true q9548309; go_wp2
      go_roundg k1
      case measure => have := HK1.out; omega
      case rel => exact ⟨((rd_T37 l0 x5_1).f1), y1_, H', ⟨y72_⟩, y9_⟩)
    first
    | fail_if_success clear m0_3
    |(clear m0_3; go_wp2
      go_ret
      exact ⟨y1_, y9_⟩))

/-! ### spec_l4Deep: function 39 -/
def spec_l4Deep.l0 : Nat → List (S37) → Int → Int → Option (Int)
  | 0, _, _, _ => none
  | k + 1, x0, x1, x5 => if x1 ≥ 0 then (if x5 < 50 then (if 0 ≤ x1 then (if x1 < (x0.length : Int) then (spec_l4Deep.l0 k x0 ((rd_T37 x0 x1).f1) (wrap64 (x5 + 1))) else (none)) else (none)) else (some x5)) else (some x5)
def spec_l4Deep.f (k : Nat) (l0 : List (S37)) (a1 : Int) : Option (Int) := spec_l4Deep.l0 k l0 a1 0
theorem spec_l4Deep.mono_l : ∀ k, (∀ y0 y1 y2, LeO (spec_l4Deep.l0 k y0 y1 y2) (spec_l4Deep.l0 (k + 1) y0 y1 y2))
  | 0 => fun _ _ _ r h => by simp [spec_l4Deep.l0] at h
  | k + 1 => by
    have ih0 := spec_l4Deep.mono_l k
    · intro y0 y1 y2
      unfold spec_l4Deep.l0
      repeat' (with_reducible first | exact ih0 _ _ _ | exact LeO.refl _ | exact LeO.none _ | refine LeO.ite ?_ ?_ | refine LeO.bind ?_ (fun _ => ?_))
theorem spec_l4Deep.mono : ∀ a0 a1 k, LeO (spec_l4Deep.f k a0 a1) (spec_l4Deep.f (k + 1) a0 a1) := by
  intro a0 a1 k
  have ih0 := spec_l4Deep.mono_l k
  unfold spec_l4Deep.f
  repeat' (with_reducible first | exact ih0 _ _ _ | exact LeO.refl _ | exact LeO.none _ | refine LeO.ite ?_ ?_ | refine LeO.bind ?_ (fun _ => ?_))
set_option maxHeartbeats 8000000 in
set_option maxRecDepth 100000 in
theorem spec_l4Deep.calls (k : Nat) (A0 : Option Addr) (c0 : Nat) (l0 : List (S37)) (a1 : Int) (r : Int) (w : World) (hr0 : Kd.C k37 w A0 l0.length l0) (hc0 : l0.length ≤ c0) (h : spec_l4Deep.f k l0 a1 = some r) :
    Calls Try.prog 39 #[.slice A0 l0.length c0, .int .i64 a1] w fun e w' => e = .returned (.int .i64 r) ∧ Drawn0 w w' := by
 have HR0 := a_ hr0; have HC0 := a_ hc0; clear hr0 hc0; have H : (spec_l4Deep.l0 k l0 a1 0) = some r := h; clear h; have H' := a_ H; clear H; go_enter Try.func39, Try.ntmps39
 go_wp2
 go_loopg [1, 5] k (fun kq v1 v5 w' => ∃ (x1_1 : Int) (x5_1 : Int), v1 = .int .i64 x1_1 ∧ v5 = .int .i64 x5_1 ∧ Aside0 (spec_l4Deep.l0 kq l0 x1_1 x5_1 = some r) ∧ Aside0 (kq ≤ k) ∧ Drawn0 w w')
 case atStart => exact ⟨(a1), (0), y1_, y1_, H', ⟨Nat.le_refl _⟩, y9_⟩
 case round =>
  clear H'; obtain ⟨x1_1, x5_1, rfl, rfl, HA, HK1, ⟨m1, rfl⟩⟩ := hrel; cases gk with
  | zero => exact absurd HA.out (by simp [spec_l4Deep.l0])
  | succ k1 =>
   have H := HA.out; clear HA; simp only [spec_l4Deep.l0] at H; by_cases c3 : x1_1 ≥ 0
   ·rw [if_pos c3] at H; have c3b0 : decide (0 ≤ x1_1) = true := decide_eq_true c3; clear c3; by_cases c4 : x5_1 < 50
    ·rw [if_pos c4] at H; have c4b0 : decide (x5_1 < 50) = true := decide_eq_true c4; clear c4; by_cases c5 : 0 ≤ x1_1
     ·rw [if_pos c5] at H; have c5b0 : decide (0 ≤ x1_1) = true := decide_eq_true c5; clear c5; by_cases c6 : x1_1 < (l0.length : Int)
      ·rw [if_pos c6] at H; have c6b0 : decide (x1_1 < (l0.length : Int)) = true := decide_eq_true c6; clear c6; have H' := a_ H; clear H; have p110 : 0 ≤ (x1_1 : Int) := of_decide_eq_true y2_; have q110 : x1_1 < (l0.length : Int) := of_decide_eq_true y2_; obtain ⟨ad110, A110_4, c110_4, A110_5, c110_5, e110, hx110_0, hx110_1, hx110_2, hx110_3, hx110_4, hx110_5, hl110_4, hi110_4, hl110_5, hi110_5⟩ := at_T37 HR0.out x1_1 p110 q110; cases e110; have HR110_4 := a_ hi110_4; have HC110_4 := a_ hl110_4; clear hi110_4 hl110_4; have HR110_5 := a_ hi110_5; have HC110_5 := a_ hl110_5; clear hi110_5 hl110_5; replace p110 := eq_true p110; replace q110 := eq_true q110; go_wp2
       go_roundg k1
       case measure => have := HK1.out; omega
       case rel => exact ⟨((rd_T37 l0 x1_1).f1), (wrap64 (x5_1 + 1)), y1_, y1_, H', ⟨y72_⟩, y9_⟩
      ·rw [if_neg c6] at H; exact absurd H y57_
     ·rw [if_neg c5] at H; exact absurd H y57_
    ·rw [if_neg c4] at H; have c4b0 : decide (x5_1 < 50) = false := decide_eq_false c4; clear c4; obtain rfl := Option.some.inj H; go_wp2
     go_ret
     exact ⟨y1_, y9_⟩
   ·rw [if_neg c3] at H; have c3b0 : decide (0 ≤ x1_1) = false := decide_eq_false c3; clear c3; obtain rfl := Option.some.inj H; go_wp2
    go_ret
    exact ⟨y1_, y9_⟩

/-! ### spec_l1Name: function 40 -/
def spec_l1Name.l0 : Nat → ByteArray → Int → Option (Int)
  | 0, _, _ => none
  | k + 1, x0, x3 => if x3 < (x0.size : Int) then (if 0 ≤ x3 then (if (bt x0 x3) < 97 then (some 5) else (if (bt x0 x3) > 122 then (some 5) else (spec_l1Name.l0 k x0 (wrap64 (x3 + 1))))) else (none)) else (if x0.toList = ([] : List UInt8) then (some 5) else (if (x0.size : Int) > 8 then (some 2) else (some 0)))
def spec_l1Name.f (k : Nat) (a0 : ByteArray) : Option (Int) := spec_l1Name.l0 k a0 0
theorem spec_l1Name.mono_l : ∀ k, (∀ y0 y1, LeO (spec_l1Name.l0 k y0 y1) (spec_l1Name.l0 (k + 1) y0 y1))
  | 0 => fun _ _ r h => by simp [spec_l1Name.l0] at h
  | k + 1 => by
    have ih0 := spec_l1Name.mono_l k
    · intro y0 y1
      unfold spec_l1Name.l0
      repeat' (with_reducible first | exact ih0 _ _ | exact LeO.refl _ | exact LeO.none _ | refine LeO.ite ?_ ?_ | refine LeO.bind ?_ (fun _ => ?_))
theorem spec_l1Name.mono : ∀ a0 k, LeO (spec_l1Name.f k a0) (spec_l1Name.f (k + 1) a0) := by
  intro a0 k
  have ih0 := spec_l1Name.mono_l k
  unfold spec_l1Name.f
  repeat' (with_reducible first | exact ih0 _ _ | exact LeO.refl _ | exact LeO.none _ | refine LeO.ite ?_ ?_ | refine LeO.bind ?_ (fun _ => ?_))
set_option maxHeartbeats 8000000 in
set_option maxRecDepth 100000 in
theorem spec_l1Name.calls (k : Nat) (a0 : ByteArray) (r : Int) (w : World) (h : spec_l1Name.f k a0 = some r) :
    Calls Try.prog 40 #[.string a0] w fun e w' => e = .returned (.int .i64 r) ∧ Drawn0 w w' := by
 have H : (spec_l1Name.l0 k a0 0) = some r := h; clear h; have H' := a_ H; clear H; go_enter Try.func40, Try.ntmps40
 go_wp2
 go_loopg [3] k (fun kq v3 w' => ∃ (x3_1 : Int), v3 = .int .i64 x3_1 ∧ Aside0 (spec_l1Name.l0 kq a0 x3_1 = some r) ∧ Aside0 (kq ≤ k) ∧ Drawn0 w w')
 case atStart => exact ⟨(0), y1_, H', ⟨Nat.le_refl _⟩, y9_⟩
 case round =>
  clear H'; obtain ⟨x3_1, rfl, HA, HK1, ⟨m1, rfl⟩⟩ := hrel; cases gk with
  | zero => exact absurd HA.out (by simp [spec_l1Name.l0])
  | succ k1 =>
   have H := HA.out; clear HA; simp only [spec_l1Name.l0] at H; by_cases cx0 : x3_1 < (a0.size : Int); rw [if_pos cx0] at H; have cx0b0 : decide (x3_1 < (a0.size : Int)) = true := decide_eq_true cx0; clear cx0; by_cases cx1 : 0 ≤ x3_1; rw [if_pos cx1] at H; have cx1b0 : decide (0 ≤ x3_1) = true := decide_eq_true cx1; clear cx1; by_cases cx2 : (bt a0 x3_1) < 97; rw [if_pos cx2] at H; have cx2b0 : decide ((bt a0 x3_1) < 97) = true := decide_eq_true cx2; clear cx2; obtain rfl := Option.some.inj H; have m0_0 := t_; have m0_1 := t_; rotate_left; rw [if_neg cx2] at H; have cx2b0 : decide ((bt a0 x3_1) < 97) = false := decide_eq_false cx2; clear cx2; by_cases cx3 : (bt a0 x3_1) > 122; rw [if_pos cx3] at H; have cx3b0 : decide (122 < (bt a0 x3_1)) = true := decide_eq_true cx3; clear cx3; obtain rfl := Option.some.inj H; have m0_0 := t_; have m0_2 := t_; have m0_3 := t_; rotate_left; rw [if_neg cx3] at H; have cx3b0 : decide (122 < (bt a0 x3_1)) = false := decide_eq_false cx3; clear cx3; have H' := a_ H; clear H; have m0_0 := t_; have m0_2 := t_; have m0_4 := t_; rotate_left
   ·rw [if_neg cx1] at H; exact absurd H y57_
   rw [if_neg cx0] at H; have cx0b0 : decide (x3_1 < (a0.size : Int)) = false := decide_eq_false cx0; clear cx0; by_cases cx1 : a0.toList = ([] : List UInt8); rw [if_pos cx1] at H; have cx1b0 : (a0.toList == ([] : List UInt8)) = true := beq_iff_eq.mpr cx1; have cx1b1 : (a0.toList != ([] : List UInt8)) = false := bne_eq_false_iff_eq.mpr cx1; clear cx1; obtain rfl := Option.some.inj H; have m0_5 := t_; rotate_left; rw [if_neg cx1] at H; have cx1b0 : (a0.toList == ([] : List UInt8)) = false := beq_eq_false_iff_ne.mpr cx1; have cx1b1 : (a0.toList != ([] : List UInt8)) = true := bne_iff_ne.mpr cx1; by_cases cx2 : (a0.size : Int) > 8; rw [if_pos cx2] at H; have cx2b0 : decide (8 < (a0.size : Int)) = true := decide_eq_true cx2; have cx2b1 : decide (8 < a0.size) = true := decide_eq_true y88_; clear cx2; obtain rfl := Option.some.inj H; have m0_6 := t_; rotate_left; rw [if_neg cx2] at H; have cx2b0 : decide (8 < (a0.size : Int)) = false := decide_eq_false cx2; have cx2b1 : decide (8 < a0.size) = false := decide_eq_false y88_; clear cx2; obtain rfl := Option.some.inj H; have m0_7 := t_; rotate_left
   all_goals (
    first
    | fail_if_success clear m0_0
    |(clear m0_0; have p9922068 : 0 ≤ (x3_1 : Int) := of_decide_eq_true y2_; have q9922068 : x3_1 < (a0.size : Int) := of_decide_eq_true y2_; have hx9922068 := bt_at a0 x3_1; replace p9922068 := eq_true p9922068; replace q9922068 := eq_true q9922068)
    first
    | fail_if_success clear m0_1
    |(clear m0_1; go_wp2
      go_ret
      exact ⟨y1_, y9_⟩)
    first
    | fail_if_success clear m0_2
    |(clear m0_2; have p9548309 : 0 ≤ (x3_1 : Int) := of_decide_eq_true y2_; have q9548309 : x3_1 < (a0.size : Int) := of_decide_eq_true y2_; have hx9548309 := bt_at a0 x3_1; replace p9548309 := eq_true p9548309; replace q9548309 := eq_true q9548309; go_wp2)
    first
    | fail_if_success clear m0_3
    |(clear m0_3; go_ret
      exact ⟨y1_, y9_⟩)
    first
    | fail_if_success clear m0_4
    |(clear m0_4; go_roundg k1
      case measure => have := HK1.out; omega
      case rel => exact ⟨(wrap64 (x3_1 + 1)), y1_, H', ⟨y72_⟩, y9_⟩)
    first
    | fail_if_success clear m0_5
    |(clear m0_5; go_wp2
      go_ret
      exact ⟨y1_, y9_⟩)
    first
    | fail_if_success clear m0_6
    |(clear m0_6; go_wp2
      go_ret
      exact ⟨y1_, y9_⟩)
    first
    | fail_if_success clear m0_7
    |(clear m0_7; go_wp2
      go_ret
      exact ⟨y1_, y9_⟩))

/-! ### spec_l4Arg: function 41 -/
def spec_l4Arg.j0 : Nat → S37 → Int → Bool → Bool → Option (Bool)
  | 0, _, _, _, _ => none
  | k + 1, x0, x6, x7, x14 => if x14 = true then ((spec_l1In.f ((rd_T37 [x0] 0).f3) 1 99).bind fun t114 => (some t114)) else (if x6 = 7 then ((spec_l1In.f ((rd_T37 [x0] 0).f3) 0 3).bind fun t116 => (some t116)) else (some true))
def spec_l4Arg.f (k : Nat) (a0 : S37) : Option (Bool) := if ((rd_T37 [a0] 0).f0) = 5 then ((spec_l1In.f ((rd_T37 [a0] 0).f3) 0 9).bind fun t112 => (some t112)) else (if ((rd_T37 [a0] 0).f0) = 6 then (spec_l4Arg.j0 k a0 ((rd_T37 [a0] 0).f0) (((rd_T37 [a0] 0).f0) == 5) (((rd_T37 [a0] 0).f0) == 6)) else (spec_l4Arg.j0 k a0 ((rd_T37 [a0] 0).f0) (((rd_T37 [a0] 0).f0) == 5) (((rd_T37 [a0] 0).f0) == 8)))
theorem spec_l4Arg.mono_l : ∀ k, (∀ y0 y1 y2 y3, LeO (spec_l4Arg.j0 k y0 y1 y2 y3) (spec_l4Arg.j0 (k + 1) y0 y1 y2 y3))
  | 0 => fun _ _ _ _ r h => by simp [spec_l4Arg.j0] at h
  | k + 1 => by
    have ih0 := spec_l4Arg.mono_l k
    · intro y0 y1 y2 y3
      unfold spec_l4Arg.j0
      repeat' (with_reducible first | exact ih0 _ _ _ _ | exact LeO.refl _ | exact LeO.none _ | refine LeO.ite ?_ ?_ | refine LeO.bind ?_ (fun _ => ?_))
theorem spec_l4Arg.mono : ∀ a0 k, LeO (spec_l4Arg.f k a0) (spec_l4Arg.f (k + 1) a0) := by
  intro a0 k
  have ih0 := spec_l4Arg.mono_l k
  unfold spec_l4Arg.f
  repeat' (with_reducible first | exact ih0 _ _ _ _ | exact LeO.refl _ | exact LeO.none _ | refine LeO.ite ?_ ?_ | refine LeO.bind ?_ (fun _ => ?_))
set_option maxHeartbeats 8000000 in
set_option maxRecDepth 100000 in
theorem spec_l4Arg.calls (k : Nat) (adp0 : Addr) (a0 : S37) (r : Bool) (w : World) (hr0 : Kd.C k37 w (some adp0) 1 [a0]) (h : spec_l4Arg.f k a0 = some r) :
    Calls Try.prog 41 #[.pointer (some adp0)] w fun e w' => e = .returned (.bool r) ∧ Drawn0 w w' := by
 have HR0 := a_ hr0; clear hr0; have H : (if ((rd_T37 [a0] 0).f0) = 5 then ((spec_l1In.f ((rd_T37 [a0] 0).f3) 0 9).bind fun t112 => (some t112)) else (if ((rd_T37 [a0] 0).f0) = 6 then (spec_l4Arg.j0 k a0 ((rd_T37 [a0] 0).f0) (((rd_T37 [a0] 0).f0) == 5) (((rd_T37 [a0] 0).f0) == 6)) else (spec_l4Arg.j0 k a0 ((rd_T37 [a0] 0).f0) (((rd_T37 [a0] 0).f0) == 5) (((rd_T37 [a0] 0).f0) == 8)))) = some r := h; clear h; by_cases cx0 : ((rd_T37 [a0] 0).f0) = 5; rw [if_pos cx0] at H; have cx0b0 : (((rd_T37 [a0] 0).f0) == 5) = true := beq_iff_eq.mpr cx0; have cx0b1 : (((rd_T37 [a0] 0).f0) != 5) = false := bne_eq_false_iff_eq.mpr cx0; clear cx0; replace H := Option.bind_eq_some_iff.mp H; obtain ⟨tx1, Ay1, H⟩ := H; have Ax1 := a_ Ay1; clear Ay1; obtain rfl := Option.some.inj H; have m0_0 := t_; rotate_left; rw [if_neg cx0] at H; have cx0b0 : (((rd_T37 [a0] 0).f0) == 5) = false := beq_eq_false_iff_ne.mpr cx0; have cx0b1 : (((rd_T37 [a0] 0).f0) != 5) = true := bne_iff_ne.mpr cx0; have HC4 := a_ H; clear H; have m0_1 := t_; rotate_left
 all_goals (
  have p9922068 : 0 ≤ (0 : Int) := y88_; have q9922068 : 0 < ([a0].length : Int) := y57_; obtain ⟨ad9922068, A111_4, c111_4, A111_5, c111_5, e9922068, hx9922068_0, hx9922068_1, hx9922068_2, hx9922068_3, hx9922068_4, hx9922068_5, hl9922068_4, hi111_4, hl9922068_5, hi111_5⟩ := at_T37 HR0.out 0 p9922068 q9922068; obtain rfl : adp0 = ad9922068 := (by injection e9922068); have qi111 : (0 < [a0].length) = True := eq_true y88_; (try rw [show ((0 : Int)).toNat = 0 from rfl] at hx9922068_0); (try rw [show 0 * 6 = 0 from rfl] at hx9922068_0); (try rw [Addr.add_zero'] at hx9922068_0); (try rw [show ((0 : Int)).toNat = 0 from rfl] at hx9922068_1); (try rw [show 0 * 6 = 0 from rfl] at hx9922068_1); (try rw [Addr.add_zero'] at hx9922068_1); (try rw [show ((0 : Int)).toNat = 0 from rfl] at hx9922068_2); (try rw [show 0 * 6 = 0 from rfl] at hx9922068_2); (try rw [Addr.add_zero'] at hx9922068_2); (try rw [show ((0 : Int)).toNat = 0 from rfl] at hx9922068_3); (try rw [show 0 * 6 = 0 from rfl] at hx9922068_3); (try rw [Addr.add_zero'] at hx9922068_3); (try rw [show ((0 : Int)).toNat = 0 from rfl] at hx9922068_4); (try rw [show 0 * 6 = 0 from rfl] at hx9922068_4); (try rw [Addr.add_zero'] at hx9922068_4); (try rw [show ((0 : Int)).toNat = 0 from rfl] at hx9922068_5); (try rw [show 0 * 6 = 0 from rfl] at hx9922068_5); (try rw [Addr.add_zero'] at hx9922068_5); have HR111_4 := a_ hi111_4; have HC111_4 := a_ hl9922068_4; clear hi111_4 hl9922068_4; have HR111_5 := a_ hi111_5; have HC111_5 := a_ hl9922068_5; clear hi111_5 hl9922068_5; replace p9922068 := eq_true p9922068; replace q9922068 := eq_true q9922068; go_enter Try.func41, Try.ntmps41
  first
  | fail_if_success clear m0_0
  |(clear m0_0; go_wp2_with (first | ((with_reducible refine gate_callee (f := 36) rfl ?_); refine gc_ 36 13 Try.func36 #[.int .i64 ((rd_T37 [a0] 0).f3), .int .i64 0, .int .i64 9] ?_; (with_reducible refine (spec_l1In.calls ((rd_T37 [a0] 0).f3) 0 9 tx1 _ Ax1.out).mono ?_); rintro e w' ⟨rfl, ⟨nd, rfl⟩⟩; refine ⟨_, rfl, ?_⟩))
    go_ret
    exact ⟨y1_, y9_⟩)
  first
  | fail_if_success clear m0_1
  |(clear m0_1; go_upto_if 14 with (fail)
    go_cut [7, 14] (fun v9031657 v9937394 wc => ∃ (kq : Nat) (x7_3 : Bool) (x14_3 : Bool), v9031657 = .bool x7_3 ∧ v9937394 = .bool x14_3 ∧ Aside0 (spec_l4Arg.j0 kq a0 ((rd_T37 [a0] 0).f0) x7_3 x14_3 = some r) ∧ Aside0 (kq ≤ k) ∧ Drawn0 w wc)
    case first =>
     have H := HC4.out; clear HC4; by_cases cx1 : ((rd_T37 [a0] 0).f0) = 6
     ·rw [if_pos cx1] at H; have cx1b0 : (((rd_T37 [a0] 0).f0) == 6) = true := beq_iff_eq.mpr cx1; have cx1b1 : (((rd_T37 [a0] 0).f0) != 6) = false := bne_eq_false_iff_eq.mpr cx1; clear cx1; (first | rw [cx1b0] | (simp only [i64_w, i32_w]; rw [cx1b0]) | skip); have H' := a_ H; clear H; go_wp2
      go_meet
      case rel => exact ⟨_, ((((rd_T37 [a0] 0).f0) == 5)), ((((rd_T37 [a0] 0).f0) == 6)), y1_, y1_, H', ⟨y45_⟩, y9_⟩
     ·rw [if_neg cx1] at H; have cx1b0 : (((rd_T37 [a0] 0).f0) == 6) = false := beq_eq_false_iff_ne.mpr cx1; have cx1b1 : (((rd_T37 [a0] 0).f0) != 6) = true := bne_iff_ne.mpr cx1; (first | rw [cx1b0] | (simp only [i64_w, i32_w]; rw [cx1b0]) | skip); have H' := a_ H; clear H; go_wp2
      go_meet
      case rel => exact ⟨_, ((((rd_T37 [a0] 0).f0) == 5)), ((((rd_T37 [a0] 0).f0) == 8)), y1_, y1_, H', ⟨y45_⟩, y9_⟩
    case rest =>
     clear HC4; (try clear qi1); (try clear cx0); (try clear cx0b0); (try clear cx0b1); (try clear hx9922068_0); (try clear hx9922068_1); (try clear hx9922068_2); (try clear hx9922068_3); (try clear hx9922068_4); (try clear hx9922068_5); (try clear p9922068); (try clear q9922068); obtain ⟨kq, x7_3, x14_3, rfl, rfl, HA, HJ3, ⟨mc3, rfl⟩⟩ := hcut; cases kq with
     | zero => exact absurd HA.out (by simp [spec_l4Arg.j0])
     | succ kj3 =>
      have H := HA.out; clear HA; simp only [spec_l4Arg.j0] at H; by_cases cx1 : x14_3 = true; subst cx1; rw [if_pos rfl] at H; replace H := Option.bind_eq_some_iff.mp H; obtain ⟨tx2, Ay2, H⟩ := H; have Ax2 := a_ Ay2; clear Ay2; obtain rfl := Option.some.inj H; have m1_0 := t_; have m1_1 := t_; have m1_3 := t_; have m1_4 := t_; have m1_6 := t_; have m1_7 := t_; rotate_left; replace cx1 := Bool.eq_false_iff.mpr cx1; subst cx1; rw [if_neg (show ¬ (false = true) by decide)] at H; by_cases cx2 : ((rd_T37 [a0] 0).f0) = 7; rw [if_pos cx2] at H; have cx2b0 : (((rd_T37 [a0] 0).f0) == 7) = true := beq_iff_eq.mpr cx2; have cx2b1 : (((rd_T37 [a0] 0).f0) != 7) = false := bne_eq_false_iff_eq.mpr cx2; clear cx2; replace H := Option.bind_eq_some_iff.mp H; obtain ⟨tx3, Ay3, H⟩ := H; have Ax3 := a_ Ay3; clear Ay3; obtain rfl := Option.some.inj H; have m1_0 := t_; have m1_2 := t_; have m1_3 := t_; have m1_5 := t_; have m1_6 := t_; have m1_8 := t_; rotate_left; rw [if_neg cx2] at H; have cx2b0 : (((rd_T37 [a0] 0).f0) == 7) = false := beq_eq_false_iff_ne.mpr cx2; have cx2b1 : (((rd_T37 [a0] 0).f0) != 7) = true := bne_iff_ne.mpr cx2; obtain rfl := Option.some.inj H; have m1_9 := t_; rotate_left
      all_goals (
       first
       | fail_if_success clear m1_0
       |(clear m1_0; have p9548309 : 0 ≤ (0 : Int) := y88_; have q9548309 : 0 < ([a0].length : Int) := y57_)
       first
       | fail_if_success clear m1_1
       |(clear m1_1; obtain ⟨ad9548309, A113_4, c113_4, A113_5, c113_5, e9548309, hx9548309_0, hx9548309_1, hx9548309_2, hx9548309_3, hx9548309_4, hx9548309_5, hl9548309_4, hi113_4, hl9548309_5, hi113_5⟩ := at_T37 HR0.out 0 p9548309 q9548309; obtain rfl : adp0 = ad9548309 := (by injection e9548309); have qi113 : (0 < [a0].length) = True := eq_true y88_)
       first
       | fail_if_success clear m1_2
       |(clear m1_2; obtain ⟨ad9548309, A115_4, c115_4, A115_5, c115_5, e9548309, hx9548309_0, hx9548309_1, hx9548309_2, hx9548309_3, hx9548309_4, hx9548309_5, hl9548309_4, hi115_4, hl9548309_5, hi115_5⟩ := at_T37 HR0.out 0 p9548309 q9548309; obtain rfl : adp0 = ad9548309 := (by injection e9548309); have qi115 : (0 < [a0].length) = True := eq_true y88_)
       first
       | fail_if_success clear m1_3
       |(clear m1_3; (try rw [show ((0 : Int)).toNat = 0 from rfl] at hx9548309_0); (try rw [show 0 * 6 = 0 from rfl] at hx9548309_0); (try rw [Addr.add_zero'] at hx9548309_0); (try rw [show ((0 : Int)).toNat = 0 from rfl] at hx9548309_1); (try rw [show 0 * 6 = 0 from rfl] at hx9548309_1); (try rw [Addr.add_zero'] at hx9548309_1); (try rw [show ((0 : Int)).toNat = 0 from rfl] at hx9548309_2); (try rw [show 0 * 6 = 0 from rfl] at hx9548309_2); (try rw [Addr.add_zero'] at hx9548309_2); (try rw [show ((0 : Int)).toNat = 0 from rfl] at hx9548309_3); (try rw [show 0 * 6 = 0 from rfl] at hx9548309_3); (try rw [Addr.add_zero'] at hx9548309_3); (try rw [show ((0 : Int)).toNat = 0 from rfl] at hx9548309_4); (try rw [show 0 * 6 = 0 from rfl] at hx9548309_4); (try rw [Addr.add_zero'] at hx9548309_4); (try rw [show ((0 : Int)).toNat = 0 from rfl] at hx9548309_5); (try rw [show 0 * 6 = 0 from rfl] at hx9548309_5); (try rw [Addr.add_zero'] at hx9548309_5))
       first
       | fail_if_success clear m1_4
       |(clear m1_4; have HR113_4 := a_ hi113_4; have HC113_4 := a_ hl9548309_4; clear hi113_4 hl9548309_4; have HR113_5 := a_ hi113_5; have HC113_5 := a_ hl9548309_5; clear hi113_5 hl9548309_5)
       first
       | fail_if_success clear m1_5
       |(clear m1_5; have HR115_4 := a_ hi115_4; have HC115_4 := a_ hl9548309_4; clear hi115_4 hl9548309_4; have HR115_5 := a_ hi115_5; have HC115_5 := a_ hl9548309_5; clear hi115_5 hl9548309_5)
       first
       | fail_if_success clear m1_6
       |(clear m1_6; replace p9548309 := eq_true p9548309; replace q9548309 := eq_true q9548309; go_wp2_with (first | (have mkq_ := m1_7; clear mkq_; (with_reducible refine gate_callee (f := 36) rfl ?_); refine gc_ 36 21 Try.func36 #[.int .i64 ((rd_T37 [a0] 0).f3), .int .i64 1, .int .i64 99] ?_; (with_reducible refine (spec_l1In.calls ((rd_T37 [a0] 0).f3) 1 99 tx2 _ Ax2.out).mono ?_); rintro e w' ⟨rfl, ⟨nd, rfl⟩⟩; refine ⟨_, rfl, ?_⟩) | (have mkq_ := m1_8; clear mkq_; (with_reducible refine gate_callee (f := 36) rfl ?_); refine gc_ 36 28 Try.func36 #[.int .i64 ((rd_T37 [a0] 0).f3), .int .i64 0, .int .i64 3] ?_; (with_reducible refine (spec_l1In.calls ((rd_T37 [a0] 0).f3) 0 3 tx3 _ Ax3.out).mono ?_); rintro e w' ⟨rfl, ⟨nd, rfl⟩⟩; refine ⟨_, rfl, ?_⟩))
         go_ret
         exact ⟨y1_, y9_⟩)
       first
       | fail_if_success clear m1_9
       |(clear m1_9; go_wp2
         go_ret
         exact ⟨y1_, y9_⟩))))

/-! ### spec_l3Two: function 66 -/
def spec_l3Two.f (a0 : Int) : Option (Bool) := (spec_l1In.f a0 3 9).bind fun t117 => (some t117)
set_option maxHeartbeats 8000000 in
set_option maxRecDepth 100000 in
theorem spec_l3Two.calls (a0 : Int) (r : Bool) (w : World) (h : spec_l3Two.f a0 = some r) :
    Calls Try.prog 66 #[.int .i64 a0] w fun e w' => e = .returned (.bool r) ∧ Drawn0 w w' := by
 have H : ((spec_l1In.f a0 3 9).bind fun t117 => (some t117)) = some r := h; clear h; replace H := Option.bind_eq_some_iff.mp H; obtain ⟨t117, A20, H⟩ := H; have A2 := a_ A20; clear A20; obtain rfl := Option.some.inj H; go_enter Try.func66, Try.ntmps66
 go_wp2_with (first | ((with_reducible refine gate_callee (f := 36) rfl ?_); refine gc_ 36 4 Try.func36 #[.int .i64 a0, .int .i64 3, .int .i64 9] ?_; (with_reducible refine (spec_l1In.calls a0 3 9 t117 _ A2.out).mono ?_); rintro e w' ⟨rfl, ⟨nd, rfl⟩⟩; refine ⟨_, rfl, ?_⟩))
 go_ret
 exact ⟨y1_, y9_⟩

end Go.Proofs.Ytjbcpghpafacaaa.I
