-- Written by a program of this session's own (xp.py) for this seat.
import Derived.Test.YtmppibhdnajjjaaDoorGZ
import Derived.Test.YtmppibhdnajjjaaDoorG0
import Derived.Test.YtmppibhdnajjjaaDoorG1
import Derived.Test.YtmppibhdnajjjaaDoorG2
namespace Go.Proofs.YtmppibhdnajjjaaDoor.G
open Go.RowKit Go.Proofs.YtmppibhdnajjjaaDoorW.PrintWords Go.Proofs.YtmppibhdnajjjaaDoorW.PrintLast Go.Proofs.YtmppibhdnajjjaaDoorW.PrintMore
attribute [local go_sem] Instr.field asAgg
attribute [local go_sem] max2_int min2_int max_two min_two max_three min_three max_four min_four   -- for this text's walks alone
set_option linter.unusedVariables false
set_option linter.unusedSimpArgs false

/-! ### spec_l1Name: function 84 -/
def spec_l1Name.l0 : Nat → ByteArray → Int → Option (Int)
  | 0, _, _ => none
  | k + 1, x0, x3 => if x3 < (x0.size : Int) then (if 0 ≤ x3 then (if (bt x0 x3) < 97 then (some 5) else (if (bt x0 x3) > 122 then (some 5) else (spec_l1Name.l0 k x0 (wrap64 (x3 + 1))))) else (none)) else (if x0.toList = ([] : List UInt8) then (some 5) else (if (x0.size : Int) > 8 then (some 2) else (some 0)))
def spec_l1Name.f (k : Nat) (a0 : ByteArray) : Option (Int) := spec_l1Name.l0 k a0 0
theorem spec_l1Name.mono_l : ∀ k, (∀ y0 y1, LeO (spec_l1Name.l0 k y0 y1) (spec_l1Name.l0 (k + 1) y0 y1))
  | 0 => fun _ _ r h => by simp [spec_l1Name.l0] at h
  | k + 1 => by
    have ih0 := spec_l1Name.mono_l k
    · intro y0 y1
      unfold spec_l1Name.l0
      repeat' (with_reducible first | exact ih0 _ _ | exact LeO.refl _ | exact LeO.none _ | refine LeO.ite ?_ ?_ | refine LeO.bind ?_ (fun _ => ?_))
theorem spec_l1Name.mono : ∀ a0 k, LeO (spec_l1Name.f k a0) (spec_l1Name.f (k + 1) a0) := by
  intro a0 k
  have ih0 := spec_l1Name.mono_l k
  unfold spec_l1Name.f
  repeat' (with_reducible first | exact ih0 _ _ | exact LeO.refl _ | exact LeO.none _ | refine LeO.ite ?_ ?_ | refine LeO.bind ?_ (fun _ => ?_))
set_option maxHeartbeats 8000000 in
set_option maxRecDepth 100000 in
theorem spec_l1Name.calls (k : Nat) (a0 : ByteArray) (r : Int) (w : World) (h : spec_l1Name.f k a0 = some r) :
    Calls Tryd.prog 84 #[.string a0] w fun e w' => e = .returned (.int .i64 r) ∧ Drawn0 w w' := by
 have H : (spec_l1Name.l0 k a0 0) = some r := h; clear h; have H' := a_ H; clear H; go_enter Tryd.func84, Tryd.ntmps84
 go_wp2
 go_loopg [3] k (fun kq v3 w' => ∃ (x3_1 : Int), v3 = .int .i64 x3_1 ∧ Aside0 (spec_l1Name.l0 kq a0 x3_1 = some r) ∧ Aside0 (kq ≤ k) ∧ Drawn0 w w')
 case atStart => exact ⟨(0), y1_, H', ⟨Nat.le_refl _⟩, y8_⟩
 case round =>
  clear H'; obtain ⟨x3_1, rfl, HA, HK1, ⟨m1, rfl⟩⟩ := hrel; cases gk with
  | zero => exact absurd HA.out (by simp [spec_l1Name.l0])
  | succ k1 =>
   have H := HA.out; clear HA; simp only [spec_l1Name.l0] at H; by_cases cx0 : x3_1 < (a0.size : Int); rw [if_pos cx0] at H; have cx0b0 : decide (x3_1 < (a0.size : Int)) = true := decide_eq_true cx0; clear cx0; by_cases cx1 : 0 ≤ x3_1; rw [if_pos cx1] at H; have cx1b0 : decide (0 ≤ x3_1) = true := decide_eq_true cx1; clear cx1; by_cases cx2 : (bt a0 x3_1) < 97; rw [if_pos cx2] at H; have cx2b0 : decide ((bt a0 x3_1) < 97) = true := decide_eq_true cx2; clear cx2; obtain rfl := Option.some.inj H; have m0_0 := t_; have m0_1 := t_; rotate_left; rw [if_neg cx2] at H; have cx2b0 : decide ((bt a0 x3_1) < 97) = false := decide_eq_false cx2; clear cx2; by_cases cx3 : (bt a0 x3_1) > 122; rw [if_pos cx3] at H; have cx3b0 : decide (122 < (bt a0 x3_1)) = true := decide_eq_true cx3; clear cx3; obtain rfl := Option.some.inj H; have m0_0 := t_; have m0_2 := t_; have m0_3 := t_; rotate_left; rw [if_neg cx3] at H; have cx3b0 : decide (122 < (bt a0 x3_1)) = false := decide_eq_false cx3; clear cx3; have H' := a_ H; clear H; have m0_0 := t_; have m0_2 := t_; have m0_4 := t_; rotate_left
   ·rw [if_neg cx1] at H; exact absurd H y99_
   rw [if_neg cx0] at H; have cx0b0 : decide (x3_1 < (a0.size : Int)) = false := decide_eq_false cx0; clear cx0; by_cases cx1 : a0.toList = ([] : List UInt8); rw [if_pos cx1] at H; have cx1b0 : (a0.toList == ([] : List UInt8)) = true := beq_iff_eq.mpr cx1; have cx1b1 : (a0.toList != ([] : List UInt8)) = false := bne_eq_false_iff_eq.mpr cx1; clear cx1; obtain rfl := Option.some.inj H; have m0_5 := t_; rotate_left; rw [if_neg cx1] at H; have cx1b0 : (a0.toList == ([] : List UInt8)) = false := beq_eq_false_iff_ne.mpr cx1; have cx1b1 : (a0.toList != ([] : List UInt8)) = true := bne_iff_ne.mpr cx1; by_cases cx2 : (a0.size : Int) > 8; rw [if_pos cx2] at H; have cx2b0 : decide (8 < (a0.size : Int)) = true := decide_eq_true cx2; have cx2b1 : decide (8 < a0.size) = true := decide_eq_true y104_; clear cx2; obtain rfl := Option.some.inj H; have m0_6 := t_; rotate_left; rw [if_neg cx2] at H; have cx2b0 : decide (8 < (a0.size : Int)) = false := decide_eq_false cx2; have cx2b1 : decide (8 < a0.size) = false := decide_eq_false y104_; clear cx2; obtain rfl := Option.some.inj H; have m0_7 := t_; rotate_left
   all_goals (
    first
    | fail_if_success clear m0_0
    |(clear m0_0; have p9922068 : 0 ≤ (x3_1 : Int) := of_decide_eq_true y3_; have q9922068 : x3_1 < (a0.size : Int) := of_decide_eq_true y3_; have hx9922068 := bt_at a0 x3_1; replace p9922068 := eq_true p9922068; replace q9922068 := eq_true q9922068)
    first
    | fail_if_success clear m0_1
    |(clear m0_1; go_wp2
      go_ret
      exact ⟨y1_, y8_⟩)
    first
    | fail_if_success clear m0_2
    |(clear m0_2; have p9548309 : 0 ≤ (x3_1 : Int) := of_decide_eq_true y3_; have q9548309 : x3_1 < (a0.size : Int) := of_decide_eq_true y3_; have hx9548309 := bt_at a0 x3_1; replace p9548309 := eq_true p9548309; replace q9548309 := eq_true q9548309; go_wp2)
    first
    | fail_if_success clear m0_3
    |(clear m0_3; go_ret
      exact ⟨y1_, y8_⟩)
    first
    | fail_if_success clear m0_4
    |(clear m0_4; go_roundg k1
      case measure => have := HK1.out; omega
      case rel => exact ⟨(wrap64 (x3_1 + 1)), y1_, H', ⟨y92_⟩, y8_⟩)
    first
    | fail_if_success clear m0_5
    |(clear m0_5; go_wp2
      go_ret
      exact ⟨y1_, y8_⟩)
    first
    | fail_if_success clear m0_6
    |(clear m0_6; go_wp2
      go_ret
      exact ⟨y1_, y8_⟩)
    first
    | fail_if_success clear m0_7
    |(clear m0_7; go_wp2
      go_ret
      exact ⟨y1_, y8_⟩))

/-! ### spec_l6Fault: function 53 -/
mutual
def spec_l6Fault.j0 : Nat → S55 → Bool → Option (Int)
  | 0, _, _ => none
  | k + 1, x0, x29 => if x29 = true then (some 2) else (spec_l6Fault.l0 k x0 0)
def spec_l6Fault.l0 : Nat → S55 → Int → Option (Int)
  | 0, _, _ => none
  | k + 1, x0, x3 => if x3 < (((rd_T55 [x0] 0).f0).length : Int) then (if 0 ≤ x3 then ((spec_l1In.f ((rd_T94 ((rd_T55 [x0] 0).f0) x3).f0) 1 13).bind fun t120 => (if t120 = true then ((spec_l6Bare.f (rd_T94 ((rd_T55 [x0] 0).f0) x3)).bind fun t121 => (spec_l6Fault.j2 k x0 x3 ((rd_T55 [x0] 0).f0) (!t121))) else (spec_l6Fault.j2 k x0 x3 ((rd_T55 [x0] 0).f0) true))) else (none)) else (spec_l6Fault.l1 k x0 0)
def spec_l6Fault.j2 : Nat → S55 → Int → List (S94) → Bool → Option (Int)
  | 0, _, _, _, _ => none
  | k + 1, x0, x3, x34, x55 => if x55 = true then (some 1) else (if 0 ≤ x3 then (if x3 < (x34.length : Int) then ((spec_l1In.f ((rd_T94 x34 x3).f1) 0 23).bind fun t123 => (if t123 = true then ((spec_l1In.f ((rd_T94 x34 x3).f3) 0 99).bind fun t124 => (spec_l6Fault.j3 k x0 x3 x34 (!t124))) else (spec_l6Fault.j3 k x0 x3 x34 true))) else (none)) else (none))
def spec_l6Fault.j3 : Nat → S55 → Int → List (S94) → Bool → Option (Int)
  | 0, _, _, _, _ => none
  | k + 1, x0, x3, x34, x69 => if x69 = true then (some 3) else (if 0 ≤ x3 then (if x3 < (x34.length : Int) then (if (((rd_T94 x34 x3).f4).length : Int) > 16 then (some 2) else (if ((rd_T94 x34 x3).f0) = 3 then ((spec_l1Name.f k ((rd_T94 x34 x3).f2)).bind fun t126 => (if t126 = 0 then (spec_l6Fault.l0 k x0 (wrap64 (x3 + 1))) else (some t126))) else (spec_l6Fault.l0 k x0 (wrap64 (x3 + 1))))) else (none)) else (none))
def spec_l6Fault.l1 : Nat → S55 → Int → Option (Int)
  | 0, _, _ => none
  | k + 1, x0, x6 => if x6 < (((rd_T55 [x0] 0).f1).length : Int) then (if 0 ≤ x6 then ((spec_l1In.f ((rd_T97 ((rd_T55 [x0] 0).f1) x6).f0) 0 (wrap64 ((((rd_T55 [x0] 0).f0).length : Int) - 1))).bind fun t130 => (if t130 = true then ((spec_l1In.f ((rd_T97 ((rd_T55 [x0] 0).f1) x6).f1) 0 (wrap64 ((((rd_T55 [x0] 0).f0).length : Int) - 1))).bind fun t131 => (spec_l6Fault.j5 k x0 x6 ((rd_T55 [x0] 0).f1) (!t131))) else (spec_l6Fault.j5 k x0 x6 ((rd_T55 [x0] 0).f1) true))) else (none)) else (some 0)
def spec_l6Fault.j5 : Nat → S55 → Int → List (S97) → Bool → Option (Int)
  | 0, _, _, _, _ => none
  | k + 1, x0, x6, x93, x129 => if x129 = true then (some 3) else (if 0 ≤ x6 then (if x6 < (x93.length : Int) then (if (((rd_T97 x93 x6).f2).length : Int) > 16 then (some 2) else (if x6 > 0 then (if 0 ≤ (wrap64 (x6 - 1)) then (if (wrap64 (x6 - 1)) < (((rd_T55 [x0] 0).f1).length : Int) then (if ((rd_T97 x93 x6).f0) < ((rd_T97 ((rd_T55 [x0] 0).f1) (wrap64 (x6 - 1))).f0) then (some 1) else (spec_l6Fault.l1 k x0 (wrap64 (x6 + 1)))) else (none)) else (none)) else (spec_l6Fault.l1 k x0 (wrap64 (x6 + 1))))) else (none)) else (none))
end
def spec_l6Fault.f (k : Nat) (a0 : S55) : Option (Int) := if (((rd_T55 [a0] 0).f0).length : Int) < 2 then (spec_l6Fault.j0 k a0 true) else (if (((rd_T55 [a0] 0).f0).length : Int) > 60 then (spec_l6Fault.j0 k a0 true) else (spec_l6Fault.j0 k a0 (decide ((((rd_T55 [a0] 0).f1).length : Int) > 80))))
theorem spec_l6Fault.mono_l : ∀ k, (∀ y0 y1, LeO (spec_l6Fault.j0 k y0 y1) (spec_l6Fault.j0 (k + 1) y0 y1)) ∧ (∀ y0 y1, LeO (spec_l6Fault.l0 k y0 y1) (spec_l6Fault.l0 (k + 1) y0 y1)) ∧ (∀ y0 y1 y2 y3, LeO (spec_l6Fault.j2 k y0 y1 y2 y3) (spec_l6Fault.j2 (k + 1) y0 y1 y2 y3)) ∧ (∀ y0 y1 y2 y3, LeO (spec_l6Fault.j3 k y0 y1 y2 y3) (spec_l6Fault.j3 (k + 1) y0 y1 y2 y3)) ∧ (∀ y0 y1, LeO (spec_l6Fault.l1 k y0 y1) (spec_l6Fault.l1 (k + 1) y0 y1)) ∧ (∀ y0 y1 y2 y3, LeO (spec_l6Fault.j5 k y0 y1 y2 y3) (spec_l6Fault.j5 (k + 1) y0 y1 y2 y3))
  | 0 => ⟨fun _ _ r h => by simp [spec_l6Fault.j0] at h, fun _ _ r h => by simp [spec_l6Fault.l0] at h, fun _ _ _ _ r h => by simp [spec_l6Fault.j2] at h, fun _ _ _ _ r h => by simp [spec_l6Fault.j3] at h, fun _ _ r h => by simp [spec_l6Fault.l1] at h, fun _ _ _ _ r h => by simp [spec_l6Fault.j5] at h⟩
  | k + 1 => by
    obtain ⟨ih0, ih1, ih2, ih3, ih4, ih5⟩ := spec_l6Fault.mono_l k
    refine ⟨?_, ?_, ?_, ?_, ?_, ?_⟩
    · intro y0 y1
      unfold spec_l6Fault.j0
      repeat' (with_reducible first | exact ih0 _ _ | exact ih1 _ _ | exact ih2 _ _ _ _ | exact ih3 _ _ _ _ | exact ih4 _ _ | exact ih5 _ _ _ _ | exact spec_l1Name.mono _ _ | exact LeO.refl _ | exact LeO.none _ | refine LeO.ite ?_ ?_ | refine LeO.bind ?_ (fun _ => ?_))
    · intro y0 y1
      unfold spec_l6Fault.l0
      repeat' (with_reducible first | exact ih0 _ _ | exact ih1 _ _ | exact ih2 _ _ _ _ | exact ih3 _ _ _ _ | exact ih4 _ _ | exact ih5 _ _ _ _ | exact spec_l1Name.mono _ _ | exact LeO.refl _ | exact LeO.none _ | refine LeO.ite ?_ ?_ | refine LeO.bind ?_ (fun _ => ?_))
    · intro y0 y1 y2 y3
      unfold spec_l6Fault.j2
      repeat' (with_reducible first | exact ih0 _ _ | exact ih1 _ _ | exact ih2 _ _ _ _ | exact ih3 _ _ _ _ | exact ih4 _ _ | exact ih5 _ _ _ _ | exact spec_l1Name.mono _ _ | exact LeO.refl _ | exact LeO.none _ | refine LeO.ite ?_ ?_ | refine LeO.bind ?_ (fun _ => ?_))
    · intro y0 y1 y2 y3
      unfold spec_l6Fault.j3
      repeat' (with_reducible first | exact ih0 _ _ | exact ih1 _ _ | exact ih2 _ _ _ _ | exact ih3 _ _ _ _ | exact ih4 _ _ | exact ih5 _ _ _ _ | exact spec_l1Name.mono _ _ | exact LeO.refl _ | exact LeO.none _ | refine LeO.ite ?_ ?_ | refine LeO.bind ?_ (fun _ => ?_))
    · intro y0 y1
      unfold spec_l6Fault.l1
      repeat' (with_reducible first | exact ih0 _ _ | exact ih1 _ _ | exact ih2 _ _ _ _ | exact ih3 _ _ _ _ | exact ih4 _ _ | exact ih5 _ _ _ _ | exact spec_l1Name.mono _ _ | exact LeO.refl _ | exact LeO.none _ | refine LeO.ite ?_ ?_ | refine LeO.bind ?_ (fun _ => ?_))
    · intro y0 y1 y2 y3
      unfold spec_l6Fault.j5
      repeat' (with_reducible first | exact ih0 _ _ | exact ih1 _ _ | exact ih2 _ _ _ _ | exact ih3 _ _ _ _ | exact ih4 _ _ | exact ih5 _ _ _ _ | exact spec_l1Name.mono _ _ | exact LeO.refl _ | exact LeO.none _ | refine LeO.ite ?_ ?_ | refine LeO.bind ?_ (fun _ => ?_))
theorem spec_l6Fault.mono : ∀ a0 k, LeO (spec_l6Fault.f k a0) (spec_l6Fault.f (k + 1) a0) := by
  intro a0 k
  obtain ⟨ih0, ih1, ih2, ih3, ih4, ih5⟩ := spec_l6Fault.mono_l k
  unfold spec_l6Fault.f
  repeat' (with_reducible first | exact ih0 _ _ | exact ih1 _ _ | exact ih2 _ _ _ _ | exact ih3 _ _ _ _ | exact ih4 _ _ | exact ih5 _ _ _ _ | exact spec_l1Name.mono _ _ | exact LeO.refl _ | exact LeO.none _ | refine LeO.ite ?_ ?_ | refine LeO.bind ?_ (fun _ => ?_))
set_option maxHeartbeats 8000000 in
set_option maxRecDepth 100000 in
theorem spec_l6Fault.calls (k : Nat) (adp0 : Addr) (a0 : S55) (r : Int) (w : World) (hr0 : Kd.C k55 w (some adp0) 1 [a0]) (h : spec_l6Fault.f k a0 = some r) :
    Calls Tryd.prog 53 #[.pointer (some adp0)] w fun e w' => e = .returned (.int .i64 r) ∧ Drawn0 w w' := by
 have HR0 := a_ hr0; clear hr0; have H : (if (((rd_T55 [a0] 0).f0).length : Int) < 2 then (spec_l6Fault.j0 k a0 true) else (if (((rd_T55 [a0] 0).f0).length : Int) > 60 then (spec_l6Fault.j0 k a0 true) else (spec_l6Fault.j0 k a0 (decide ((((rd_T55 [a0] 0).f1).length : Int) > 80))))) = some r := h; clear h; have HC2 := a_ H; clear H; go_enter Tryd.func53, Tryd.ntmps53
 go_upto_region 1 with (fail)
 repeat (go_quiet (fail); go_upto_region 1 with (fail))
 go_cut [29] (fun v29 wc => ∃ (kq : Nat) (x29_1 : Bool), v29 = .bool x29_1 ∧ Aside0 (spec_l6Fault.j0 kq a0 x29_1 = some r) ∧ Aside0 (kq ≤ k) ∧ Drawn0 w wc)
 case first =>
  have H := HC2.out; clear HC2; by_cases cx0 : (((rd_T55 [a0] 0).f0).length : Int) < 2; rw [if_pos cx0] at H; have cx0b0 : decide ((((rd_T55 [a0] 0).f0).length : Int) < 2) = true := decide_eq_true cx0; have cx0b1 : decide (((rd_T55 [a0] 0).f0).length < 2) = true := decide_eq_true y104_; clear cx0; (first | rw [cx0b0] | (simp only [i64_w, i32_w]; rw [cx0b0]) | skip); have H' := a_ H; clear H; have m0_0 := t_; rotate_left; rw [if_neg cx0] at H; have cx0b0 : decide ((((rd_T55 [a0] 0).f0).length : Int) < 2) = false := decide_eq_false cx0; have cx0b1 : decide (((rd_T55 [a0] 0).f0).length < 2) = false := decide_eq_false y104_; clear cx0; (first | rw [cx0b0] | (simp only [i64_w, i32_w]; rw [cx0b0]) | skip); by_cases cx1 : (((rd_T55 [a0] 0).f0).length : Int) > 60; rw [if_pos cx1] at H; have cx1b0 : decide (60 < (((rd_T55 [a0] 0).f0).length : Int)) = true := decide_eq_true cx1; have cx1b1 : decide (60 < ((rd_T55 [a0] 0).f0).length) = true := decide_eq_true y104_; clear cx1; have H' := a_ H; clear H; have m0_0 := t_; rotate_left; rw [if_neg cx1] at H; have cx1b0 : decide (60 < (((rd_T55 [a0] 0).f0).length : Int)) = false := decide_eq_false cx1; have cx1b1 : decide (60 < ((rd_T55 [a0] 0).f0).length) = false := decide_eq_false y104_; clear cx1; have H' := a_ H; clear H; have m0_1 := t_; rotate_left
  all_goals (
   have p9922068 : 0 ≤ (0 : Int) := y104_; have q9922068 : 0 < ([a0].length : Int) := y99_; obtain ⟨ad9922068, A116_0, c116_0, A116_1, c116_1, e9922068, hx9922068_0, hx9922068_1, hl9922068_0, hi116_0, hl9922068_1, hi116_1⟩ := at_T55 HR0.out 0 p9922068 q9922068; obtain rfl : adp0 = ad9922068 := (by injection e9922068); have qi116 : (0 < [a0].length) = True := eq_true y104_; (try rw [show ((0 : Int)).toNat = 0 from rfl] at hx9922068_0); (try rw [show 0 * 2 = 0 from rfl] at hx9922068_0); (try rw [Addr.add_zero'] at hx9922068_0); (try rw [show ((0 : Int)).toNat = 0 from rfl] at hx9922068_1); (try rw [show 0 * 2 = 0 from rfl] at hx9922068_1); (try rw [Addr.add_zero'] at hx9922068_1); have HR116_0 := a_ hi116_0; have HC116_0 := a_ hl9922068_0; clear hi116_0 hl9922068_0; have HR116_1 := a_ hi116_1; have HC116_1 := a_ hl9922068_1; clear hi116_1 hl9922068_1; replace p9922068 := eq_true p9922068; replace q9922068 := eq_true q9922068; go_wp2
   repeat (go_quiet (fail); try go_wp2)
   go_meet
   first
   | fail_if_success clear m0_0
   |(clear m0_0
     case rel => exact ⟨_, (true), y1_, H', ⟨by first | omega | exact Nat.le_refl _⟩, y8_⟩)
   first
   | fail_if_success clear m0_1
   |(clear m0_1
     case rel => exact ⟨_, (decide ((((rd_T55 [a0] 0).f1).length : Int) > 80)), y1_, H', ⟨by first | omega | exact Nat.le_refl _⟩, y8_⟩))
 case rest =>
  clear HC2; (try clear qi1); obtain ⟨kq, x29_1, rfl, HA, HJ1, ⟨mc1, rfl⟩⟩ := hcut; cases kq with
  | zero => exact absurd HA.out (by simp [spec_l6Fault.j0])
  | succ kj1 =>
   have H := HA.out; clear HA; simp only [spec_l6Fault.j0] at H; by_cases cx0 : x29_1 = true
   ·subst cx0; rw [if_pos rfl] at H; obtain rfl := Option.some.inj H; go_wp2
    repeat (go_quiet (fail); try go_wp2)
    go_ret
    exact ⟨y1_, y8_⟩
   ·replace cx0 := Bool.eq_false_iff.mpr cx0; subst cx0; rw [if_neg (show ¬ (false = true) by decide)] at H; have H' := a_ H; clear H; go_wp2
    repeat (go_quiet (fail); try go_wp2)
    go_loopg [3] kj1 (fun kq v3 w' => ∃ (x3_2 : Int), v3 = .int .i64 x3_2 ∧ Aside0 (spec_l6Fault.l0 kq a0 x3_2 = some r) ∧ Aside0 (kq ≤ kj1) ∧ Drawn0 w w')
    case atStart => exact ⟨(0), y1_, H', ⟨Nat.le_refl _⟩, y8_⟩
    case round =>
     clear H'; (try clear qi1); (try clear cx0); obtain ⟨x3_2, rfl, HA, HK2, ⟨m2, rfl⟩⟩ := hrel; cases gk with
     | zero => exact absurd HA.out (by simp [spec_l6Fault.l0])
     | succ k2 =>
      have H := HA.out; clear HA; simp only [spec_l6Fault.l0] at H; by_cases cx1 : x3_2 < (((rd_T55 [a0] 0).f0).length : Int)
      ·rw [if_pos cx1] at H; have cx1b0 : decide (x3_2 < (((rd_T55 [a0] 0).f0).length : Int)) = true := decide_eq_true cx1; clear cx1; by_cases cx2 : 0 ≤ x3_2
       ·rw [if_pos cx2] at H; have cx2b0 : decide (0 ≤ x3_2) = true := decide_eq_true cx2; clear cx2; have HC8 := a_ H; clear H; have p117 : 0 ≤ (0 : Int) := y104_; have q117 : 0 < ([a0].length : Int) := y99_; (try clear hx116_0 hx116_1); obtain ⟨ad117, A117_0, c117_0, A117_1, c117_1, e117, hx117_0, hx117_1, hl117_0, hi117_0, hl117_1, hi117_1⟩ := at_T55 HR0.out 0 p117 q117; obtain rfl : adp0 = ad117 := (by injection e117); have qi117 : (0 < [a0].length) = True := eq_true y104_; (try rw [show ((0 : Int)).toNat = 0 from rfl] at hx117_0); (try rw [show 0 * 2 = 0 from rfl] at hx117_0); (try rw [Addr.add_zero'] at hx117_0); (try rw [show ((0 : Int)).toNat = 0 from rfl] at hx117_1); (try rw [show 0 * 2 = 0 from rfl] at hx117_1); (try rw [Addr.add_zero'] at hx117_1); have HR117_0 := a_ hi117_0; have HC117_0 := a_ hl117_0; clear hi117_0 hl117_0; have HR117_1 := a_ hi117_1; have HC117_1 := a_ hl117_1; clear hi117_1 hl117_1; replace p117 := eq_true p117; replace q117 := eq_true q117; have p118 : 0 ≤ (x3_2 : Int) := of_decide_eq_true y3_; have q118 : x3_2 < (((rd_T55 [a0] 0).f0).length : Int) := of_decide_eq_true y3_; have BD118 := a_ (And.intro p118 q118); obtain ⟨ad118, A118_4, c118_4, e118, hx118_0, hx118_1, hx118_2, hx118_3, hx118_4, hl118_4, hi118_4⟩ := at_T94 HR117_0.out x3_2 p118 q118; cases e118; have HR118_4 := a_ hi118_4; have HC118_4 := a_ hl118_4; clear hi118_4 hl118_4; replace p118 := eq_true p118; replace q118 := eq_true q118; go_upto_region 7 with (fail)
        repeat (go_quiet (fail); go_upto_region 7 with (fail))
        go_cut [55] (fun v55 wc => ∃ (kq : Nat) (x55_7 : Bool), v55 = .bool x55_7 ∧ Aside0 (spec_l6Fault.j2 kq a0 x3_2 ((rd_T55 [a0] 0).f0) x55_7 = some r) ∧ Aside0 (kq ≤ k2) ∧ Drawn0 w wc)
        case first =>
         have H := HC8.out; clear HC8; replace H := Option.bind_eq_some_iff.mp H; obtain ⟨tx3, Ay3, H⟩ := H; have Ax3 := a_ Ay3; clear Ay3; by_cases cx4 : tx3 = true; subst cx4; rw [if_pos rfl] at H; replace H := Option.bind_eq_some_iff.mp H; obtain ⟨tx5, Ay5, H⟩ := H; have Ax5 := a_ Ay5; clear Ay5; have H' := a_ H; clear H; have m2_0 := t_; rotate_left; replace cx4 := Bool.eq_false_iff.mpr cx4; subst cx4; rw [if_neg (show ¬ (false = true) by decide)] at H; have H' := a_ H; clear H; have m2_1 := t_; rotate_left
         all_goals (
          have p9922068 : 0 ≤ (x3_2 : Int) := of_decide_eq_true y3_; have q9922068 : x3_2 < (((rd_T55 [a0] 0).f0).length : Int) := of_decide_eq_true y3_; (try clear hx118_0 hx118_1 hx118_2 hx118_3 hx118_4); obtain ⟨ad9922068, A119_4, c119_4, e9922068, hx9922068_0, hx9922068_1, hx9922068_2, hx9922068_3, hx9922068_4, hl9922068_4, hi119_4⟩ := at_T94 HR117_0.out x3_2 p9922068 q9922068; obtain rfl : ad118 = ad9922068 := (by injection e9922068); have HR119_4 := a_ hi119_4; have HC119_4 := a_ hl9922068_4; clear hi119_4 hl9922068_4; replace p9922068 := eq_true p9922068; replace q9922068 := eq_true q9922068; go_wp2_with (first | (go_at_call 82; (with_reducible refine (spec_l1In.calls ((rd_T94 ((rd_T55 [a0] 0).f0) x3_2).f0) 1 13 _ _ Ax3.out).mono ?_); rintro e w' ⟨rfl, ⟨nd, rfl⟩⟩; (try first | exact ⟨rfl, _, World.drewN_drewN _ _ _⟩ | exact ⟨rfl, _, Eq.trans (World.drewN_drewN _ _ _) (congrArg (World.drewN _) (Nat.add_assoc _ _ _))⟩)) | (go_at_call 83; (with_reducible refine (spec_l6Bare.calls _ (rd_T94 ((rd_T55 [a0] 0).f0) x3_2) tx5 _ ?side1 Ax5.out).mono ?_); (case side1 => refine C_one (by repeat (first | exact HR117_0.out | (with_reducible refine Kd.C_alloc ?_ _) | (with_reducible refine Kd.C_drewN ?_ _) | (with_reducible refine Kd.C_drew ?_))) x3_2 (by first | exact BD118.out.1 | omega | exact of_decide_eq_true y3_) (by first | exact BD118.out.2 | exact of_decide_eq_true y3_ | omega) _ rfl); rintro e w' ⟨rfl, ⟨nd, rfl⟩⟩; (try first | exact ⟨rfl, _, World.drewN_drewN _ _ _⟩ | exact ⟨rfl, _, Eq.trans (World.drewN_drewN _ _ _) (congrArg (World.drewN _) (Nat.add_assoc _ _ _))⟩)) | go_quiet (first | (go_at_call 82; (with_reducible refine (spec_l1In.calls ((rd_T94 ((rd_T55 [a0] 0).f0) x3_2).f0) 1 13 _ _ Ax3.out).mono ?_); rintro e w' ⟨rfl, ⟨nd, rfl⟩⟩; (try first | exact ⟨rfl, _, World.drewN_drewN _ _ _⟩ | exact ⟨rfl, _, Eq.trans (World.drewN_drewN _ _ _) (congrArg (World.drewN _) (Nat.add_assoc _ _ _))⟩)) | (go_at_call 83; (with_reducible refine (spec_l6Bare.calls _ (rd_T94 ((rd_T55 [a0] 0).f0) x3_2) tx5 _ ?side1 Ax5.out).mono ?_); (case side1 => refine C_one (by repeat (first | exact HR117_0.out | (with_reducible refine Kd.C_alloc ?_ _) | (with_reducible refine Kd.C_drewN ?_ _) | (with_reducible refine Kd.C_drew ?_))) x3_2 (by first | exact BD118.out.1 | omega | exact of_decide_eq_true y3_) (by first | exact BD118.out.2 | exact of_decide_eq_true y3_ | omega) _ rfl); rintro e w' ⟨rfl, ⟨nd, rfl⟩⟩; (try first | exact ⟨rfl, _, World.drewN_drewN _ _ _⟩ | exact ⟨rfl, _, Eq.trans (World.drewN_drewN _ _ _) (congrArg (World.drewN _) (Nat.add_assoc _ _ _))⟩))))
          go_meet
          first
          | fail_if_success clear m2_0
          |(clear m2_0
            case rel => exact ⟨_, (!tx5), y1_, H', ⟨by have := HJ1.out; have := HK2.out; first | omega | exact Nat.le_refl _⟩, y8_⟩)
          first
          | fail_if_success clear m2_1
          |(clear m2_1
            case rel => exact ⟨_, (true), y1_, H', ⟨by have := HJ1.out; have := HK2.out; first | omega | exact Nat.le_refl _⟩, y8_⟩))
        case rest =>
         clear HC8; (try clear qi1); (try clear cx0); (try clear cx1); (try clear cx1b0); (try clear cx2); (try clear cx2b0); (try clear qi11); (try clear hx116_0); (try clear hx116_1); (try clear hx117_0); (try clear hx117_1); (try clear hx118_0); (try clear hx118_1); (try clear hx118_2); (try clear hx118_3); (try clear hx118_4); (try clear p117); (try clear p118); (try clear q117); (try clear q118); obtain ⟨kq, x55_7, rfl, HA, HJ7, ⟨mc7, rfl⟩⟩ := hcut; cases kq with
         | zero => exact absurd HA.out (by simp [spec_l6Fault.j2])
         | succ kj7 =>
          have H := HA.out; clear HA; simp only [spec_l6Fault.j2] at H; by_cases cx3 : x55_7 = true
          ·subst cx3; rw [if_pos rfl] at H; obtain rfl := Option.some.inj H; go_wp2
           repeat (go_quiet (fail); try go_wp2)
           go_ret
           exact ⟨y1_, y8_⟩
          ·replace cx3 := Bool.eq_false_iff.mpr cx3; subst cx3; rw [if_neg (show ¬ (false = true) by decide)] at H; have HC13 := a_ H; clear H; go_upto_region 9 with (fail)
           repeat (go_quiet (fail); go_upto_region 9 with (fail))
           go_cut [69] (fun v69 wc => ∃ (kq : Nat) (x69_12 : Bool), v69 = .bool x69_12 ∧ Aside0 (spec_l6Fault.j3 kq a0 x3_2 ((rd_T55 [a0] 0).f0) x69_12 = some r) ∧ Aside0 (kq ≤ kj7) ∧ Drawn0 w wc)
           case first =>
            have H := HC13.out; clear HC13; by_cases cx4 : 0 ≤ x3_2; rw [if_pos cx4] at H; have cx4b0 : decide (0 ≤ x3_2) = true := decide_eq_true cx4; clear cx4; (first | rw [cx4b0] | (simp only [i64_w, i32_w]; rw [cx4b0]) | skip); by_cases cx5 : x3_2 < (((rd_T55 [a0] 0).f0).length : Int); rw [if_pos cx5] at H; have cx5b0 : decide (x3_2 < (((rd_T55 [a0] 0).f0).length : Int)) = true := decide_eq_true cx5; clear cx5; replace H := Option.bind_eq_some_iff.mp H; obtain ⟨tx6, Ay6, H⟩ := H; have Ax6 := a_ Ay6; clear Ay6; by_cases cx7 : tx6 = true; subst cx7; rw [if_pos rfl] at H; replace H := Option.bind_eq_some_iff.mp H; obtain ⟨tx8, Ay8, H⟩ := H; have Ax8 := a_ Ay8; clear Ay8; have H' := a_ H; clear H; have m3_0 := t_; have m3_1 := t_; rotate_left; replace cx7 := Bool.eq_false_iff.mpr cx7; subst cx7; rw [if_neg (show ¬ (false = true) by decide)] at H; have H' := a_ H; clear H; have m3_2 := t_; rotate_left
            ·rw [if_neg cx5] at H; exact absurd H y99_
            ·rw [if_neg cx4] at H; exact absurd H y99_
            all_goals (
             have p9922068 : 0 ≤ (x3_2 : Int) := of_decide_eq_true y3_; have q9922068 : x3_2 < (((rd_T55 [a0] 0).f0).length : Int) := of_decide_eq_true y3_; (try clear hx118_0 hx118_1 hx118_2 hx118_3 hx118_4 hx119_0 hx119_1 hx119_2 hx119_3 hx119_4); obtain ⟨ad9922068, A122_4, c122_4, e9922068, hx9922068_0, hx9922068_1, hx9922068_2, hx9922068_3, hx9922068_4, hl9922068_4, hi122_4⟩ := at_T94 HR117_0.out x3_2 p9922068 q9922068; obtain rfl : ad118 = ad9922068 := (by injection e9922068); have HR122_4 := a_ hi122_4; have HC122_4 := a_ hl9922068_4; clear hi122_4 hl9922068_4; replace p9922068 := eq_true p9922068; replace q9922068 := eq_true q9922068; go_wp2_with (first | (go_at_call 82; (with_reducible refine (spec_l1In.calls ((rd_T94 ((rd_T55 [a0] 0).f0) x3_2).f1) 0 23 _ _ Ax6.out).mono ?_); rintro e w' ⟨rfl, ⟨nd, rfl⟩⟩; (try first | exact ⟨rfl, _, World.drewN_drewN _ _ _⟩ | exact ⟨rfl, _, Eq.trans (World.drewN_drewN _ _ _) (congrArg (World.drewN _) (Nat.add_assoc _ _ _))⟩)) | (have mkq_ := m3_0; clear mkq_; go_at_call 82; (with_reducible refine (spec_l1In.calls ((rd_T94 ((rd_T55 [a0] 0).f0) x3_2).f3) 0 99 tx8 _ Ax8.out).mono ?_); rintro e w' ⟨rfl, ⟨nd, rfl⟩⟩; (try first | exact ⟨rfl, _, World.drewN_drewN _ _ _⟩ | exact ⟨rfl, _, Eq.trans (World.drewN_drewN _ _ _) (congrArg (World.drewN _) (Nat.add_assoc _ _ _))⟩)) | go_quiet (first | (go_at_call 82; (with_reducible refine (spec_l1In.calls ((rd_T94 ((rd_T55 [a0] 0).f0) x3_2).f1) 0 23 _ _ Ax6.out).mono ?_); rintro e w' ⟨rfl, ⟨nd, rfl⟩⟩; (try first | exact ⟨rfl, _, World.drewN_drewN _ _ _⟩ | exact ⟨rfl, _, Eq.trans (World.drewN_drewN _ _ _) (congrArg (World.drewN _) (Nat.add_assoc _ _ _))⟩)) | (go_at_call 82; (with_reducible refine (spec_l1In.calls ((rd_T94 ((rd_T55 [a0] 0).f0) x3_2).f3) 0 99 tx8 _ Ax8.out).mono ?_); rintro e w' ⟨rfl, ⟨nd, rfl⟩⟩; (try first | exact ⟨rfl, _, World.drewN_drewN _ _ _⟩ | exact ⟨rfl, _, Eq.trans (World.drewN_drewN _ _ _) (congrArg (World.drewN _) (Nat.add_assoc _ _ _))⟩))))
             go_meet
             first
             | fail_if_success clear m3_1
             |(clear m3_1
               case rel => exact ⟨_, (!tx8), y1_, H', ⟨by have := HJ1.out; have := HK2.out; have := HJ7.out; first | omega | exact Nat.le_refl _⟩, y8_⟩)
             first
             | fail_if_success clear m3_2
             |(clear m3_2
               case rel => exact ⟨_, (true), y1_, H', ⟨by have := HJ1.out; have := HK2.out; have := HJ7.out; first | omega | exact Nat.le_refl _⟩, y8_⟩))
           case rest =>
            clear HC13; (try clear qi1); (try clear cx0); (try clear cx1); (try clear cx1b0); (try clear cx2); (try clear cx2b0); (try clear qi11); (try clear cx3); (try clear hx116_0); (try clear hx116_1); (try clear hx117_0); (try clear hx117_1); (try clear hx118_0); (try clear hx118_1); (try clear hx118_2); (try clear hx118_3); (try clear hx118_4); (try clear p117); (try clear p118); (try clear q117); (try clear q118); obtain ⟨kq, x69_12, rfl, HA, HJ12, ⟨mc12, rfl⟩⟩ := hcut; cases kq with
            | zero => exact absurd HA.out (by simp [spec_l6Fault.j3])
            | succ kj12 =>
             have H := HA.out; clear HA; simp only [spec_l6Fault.j3] at H; by_cases cx4 : x69_12 = true; subst cx4; rw [if_pos rfl] at H; obtain rfl := Option.some.inj H; have m3_0 := t_; rotate_left; replace cx4 := Bool.eq_false_iff.mpr cx4; subst cx4; rw [if_neg (show ¬ (false = true) by decide)] at H; by_cases cx5 : 0 ≤ x3_2; rw [if_pos cx5] at H; have cx5b0 : decide (0 ≤ x3_2) = true := decide_eq_true cx5; clear cx5; by_cases cx6 : x3_2 < (((rd_T55 [a0] 0).f0).length : Int); rw [if_pos cx6] at H; have cx6b0 : decide (x3_2 < (((rd_T55 [a0] 0).f0).length : Int)) = true := decide_eq_true cx6; clear cx6; by_cases cx7 : (((rd_T94 ((rd_T55 [a0] 0).f0) x3_2).f4).length : Int) > 16; rw [if_pos cx7] at H; have cx7b0 : decide (16 < (((rd_T94 ((rd_T55 [a0] 0).f0) x3_2).f4).length : Int)) = true := decide_eq_true cx7; have cx7b1 : decide (16 < ((rd_T94 ((rd_T55 [a0] 0).f0) x3_2).f4).length) = true := decide_eq_true y104_; clear cx7; obtain rfl := Option.some.inj H; have m3_1 := t_; have m3_2 := t_; have m3_3 := t_; rotate_left; rw [if_neg cx7] at H; have cx7b0 : decide (16 < (((rd_T94 ((rd_T55 [a0] 0).f0) x3_2).f4).length : Int)) = false := decide_eq_false cx7; have cx7b1 : decide (16 < ((rd_T94 ((rd_T55 [a0] 0).f0) x3_2).f4).length) = false := decide_eq_false y104_; clear cx7; by_cases cx8 : ((rd_T94 ((rd_T55 [a0] 0).f0) x3_2).f0) = 3; rw [if_pos cx8] at H; have cx8b0 : (((rd_T94 ((rd_T55 [a0] 0).f0) x3_2).f0) == 3) = true := beq_iff_eq.mpr cx8; have cx8b1 : (((rd_T94 ((rd_T55 [a0] 0).f0) x3_2).f0) != 3) = false := bne_eq_false_iff_eq.mpr cx8; clear cx8; replace H := Option.bind_eq_some_iff.mp H; obtain ⟨tx9, Ay9, H⟩ := H; have Ax9 := a_ Ay9; clear Ay9; by_cases cx10 : tx9 = 0; rw [if_pos cx10] at H; have cx10b0 : (tx9 == 0) = true := beq_iff_eq.mpr cx10; have cx10b1 : (tx9 != 0) = false := bne_eq_false_iff_eq.mpr cx10; clear cx10; have H' := a_ H; clear H; have m3_1 := t_; have m3_4 := t_; have m3_5 := t_; rotate_left; rw [if_neg cx10] at H; have cx10b0 : (tx9 == 0) = false := beq_eq_false_iff_ne.mpr cx10; have cx10b1 : (tx9 != 0) = true := bne_iff_ne.mpr cx10; obtain rfl := Option.some.inj H; have m3_1 := t_; have m3_4 := t_; have m3_6 := t_; rotate_left; rw [if_neg cx8] at H; have cx8b0 : (((rd_T94 ((rd_T55 [a0] 0).f0) x3_2).f0) == 3) = false := beq_eq_false_iff_ne.mpr cx8; have cx8b1 : (((rd_T94 ((rd_T55 [a0] 0).f0) x3_2).f0) != 3) = true := bne_iff_ne.mpr cx8; have H' := a_ H; clear H; have m3_1 := t_; have m3_2 := t_; have m3_5 := t_; rotate_left
             ·rw [if_neg cx6] at H; exact absurd H y99_
             ·rw [if_neg cx5] at H; exact absurd H y99_
             all_goals (
              first
              | fail_if_success clear m3_0
              |(clear m3_0; go_wp2
                repeat (go_quiet (fail); try go_wp2)
                go_ret
                exact ⟨y1_, y8_⟩)
              first
              | fail_if_success clear m3_1
              |(clear m3_1; have p9922068 : 0 ≤ (x3_2 : Int) := of_decide_eq_true y3_; have q9922068 : x3_2 < (((rd_T55 [a0] 0).f0).length : Int) := of_decide_eq_true y3_; (try clear hx118_0 hx118_1 hx118_2 hx118_3 hx118_4 hx119_0 hx119_1 hx119_2 hx119_3 hx119_4 hx122_0 hx122_1 hx122_2 hx122_3 hx122_4); obtain ⟨ad9922068, A125_4, c125_4, e9922068, hx9922068_0, hx9922068_1, hx9922068_2, hx9922068_3, hx9922068_4, hl9922068_4, hi125_4⟩ := at_T94 HR117_0.out x3_2 p9922068 q9922068; obtain rfl : ad118 = ad9922068 := (by injection e9922068); have HR125_4 := a_ hi125_4; have HC125_4 := a_ hl9922068_4; clear hi125_4 hl9922068_4; replace p9922068 := eq_true p9922068; replace q9922068 := eq_true q9922068)
              first
              | fail_if_success clear m3_2
              |(clear m3_2; go_wp2
                repeat (go_quiet (fail); try go_wp2))
              first
              | fail_if_success clear m3_3
              |(clear m3_3; go_ret
                exact ⟨y1_, y8_⟩)
              first
              | fail_if_success clear m3_4
              |(clear m3_4; go_wp2_with (first | (go_at_call 84; (with_reducible refine (spec_l1Name.calls kj12 ((rd_T94 ((rd_T55 [a0] 0).f0) x3_2).f2) tx9 _ Ax9.out).mono ?_); rintro e w' ⟨rfl, ⟨nd, rfl⟩⟩; (try first | exact ⟨rfl, _, World.drewN_drewN _ _ _⟩ | exact ⟨rfl, _, Eq.trans (World.drewN_drewN _ _ _) (congrArg (World.drewN _) (Nat.add_assoc _ _ _))⟩)) | go_quiet (first | (go_at_call 84; (with_reducible refine (spec_l1Name.calls kj12 ((rd_T94 ((rd_T55 [a0] 0).f0) x3_2).f2) tx9 _ Ax9.out).mono ?_); rintro e w' ⟨rfl, ⟨nd, rfl⟩⟩; (try first | exact ⟨rfl, _, World.drewN_drewN _ _ _⟩ | exact ⟨rfl, _, Eq.trans (World.drewN_drewN _ _ _) (congrArg (World.drewN _) (Nat.add_assoc _ _ _))⟩)))))
              first
              | fail_if_success clear m3_5
              |(clear m3_5; go_roundg kj12
                case measure => have := HJ1.out; have := HK2.out; have := HJ7.out; have := HJ12.out; omega
                case rel => exact ⟨(wrap64 (x3_2 + 1)), y1_, H', ⟨by have := HJ1.out; have := HK2.out; have := HJ7.out; have := HJ12.out; omega⟩, y8_⟩)
              first
              | fail_if_success clear m3_6
              |(clear m3_6; go_ret
                exact ⟨y1_, y8_⟩))
       ·rw [if_neg cx2] at H; exact absurd H y99_
      ·rw [if_neg cx1] at H; have cx1b0 : decide (x3_2 < (((rd_T55 [a0] 0).f0).length : Int)) = false := decide_eq_false cx1; clear cx1; have H' := a_ H; clear H; have p117 : 0 ≤ (0 : Int) := y104_; have q117 : 0 < ([a0].length : Int) := y99_; (try clear hx116_0 hx116_1); obtain ⟨ad117, A117_0, c117_0, A117_1, c117_1, e117, hx117_0, hx117_1, hl117_0, hi117_0, hl117_1, hi117_1⟩ := at_T55 HR0.out 0 p117 q117; obtain rfl : adp0 = ad117 := (by injection e117); have qi117 : (0 < [a0].length) = True := eq_true y104_; (try rw [show ((0 : Int)).toNat = 0 from rfl] at hx117_0); (try rw [show 0 * 2 = 0 from rfl] at hx117_0); (try rw [Addr.add_zero'] at hx117_0); (try rw [show ((0 : Int)).toNat = 0 from rfl] at hx117_1); (try rw [show 0 * 2 = 0 from rfl] at hx117_1); (try rw [Addr.add_zero'] at hx117_1); have HR117_0 := a_ hi117_0; have HC117_0 := a_ hl117_0; clear hi117_0 hl117_0; have HR117_1 := a_ hi117_1; have HC117_1 := a_ hl117_1; clear hi117_1 hl117_1; replace p117 := eq_true p117; replace q117 := eq_true q117; go_wp2
       repeat (go_quiet (fail); try go_wp2)
       go_loopg [6] k2 (fun kq v6 w' => ∃ (x6_3 : Int), v6 = .int .i64 x6_3 ∧ Aside0 (spec_l6Fault.l1 kq a0 x6_3 = some r) ∧ Aside0 (kq ≤ k2) ∧ Drawn0 w w')
       case atStart => exact ⟨(0), y1_, H', ⟨Nat.le_refl _⟩, y8_⟩
       case round =>
        clear H'; (try clear qi1); (try clear cx0); (try clear cx1); (try clear cx1b0); (try clear qi11); (try clear hx116_0); (try clear hx116_1); (try clear hx117_0); (try clear hx117_1); (try clear p117); (try clear q117); obtain ⟨x6_3, rfl, HA, HK3, ⟨m3, rfl⟩⟩ := hrel; cases gk with
        | zero => exact absurd HA.out (by simp [spec_l6Fault.l1])
        | succ k3 =>
         have H := HA.out; clear HA; simp only [spec_l6Fault.l1] at H; by_cases cx2 : x6_3 < (((rd_T55 [a0] 0).f1).length : Int); rw [if_pos cx2] at H; have cx2b0 : decide (x6_3 < (((rd_T55 [a0] 0).f1).length : Int)) = true := decide_eq_true cx2; clear cx2; by_cases cx3 : 0 ≤ x6_3; rw [if_pos cx3] at H; have cx3b0 : decide (0 ≤ x6_3) = true := decide_eq_true cx3; clear cx3; have HC28 := a_ H; clear H; have m2_0 := t_; have m2_2 := t_; rotate_left
         ·rw [if_neg cx3] at H; exact absurd H y99_
         rw [if_neg cx2] at H; have cx2b0 : decide (x6_3 < (((rd_T55 [a0] 0).f1).length : Int)) = false := decide_eq_false cx2; clear cx2; obtain rfl := Option.some.inj H; have m2_1 := t_; have m2_3 := t_; rotate_left
         all_goals (
          have p9922068 : 0 ≤ (0 : Int) := y104_; have q9922068 : 0 < ([a0].length : Int) := y99_
          first
          | fail_if_success clear m2_0
          |(clear m2_0; (try clear hx116_0 hx116_1 hx117_0 hx117_1))
          first
          | fail_if_success clear m2_1
          |(clear m2_1; (try clear hx116_0 hx116_1 hx117_0 hx117_1 hx9088719_0 hx9088719_1))
          obtain ⟨ad9922068, A127_0, c127_0, A127_1, c127_1, e9922068, hx9922068_0, hx9922068_1, hl9922068_0, hi127_0, hl9922068_1, hi127_1⟩ := at_T55 HR0.out 0 p9922068 q9922068; obtain rfl : adp0 = ad9922068 := (by injection e9922068); have qi127 : (0 < [a0].length) = True := eq_true y104_; (try rw [show ((0 : Int)).toNat = 0 from rfl] at hx9922068_0); (try rw [show 0 * 2 = 0 from rfl] at hx9922068_0); (try rw [Addr.add_zero'] at hx9922068_0); (try rw [show ((0 : Int)).toNat = 0 from rfl] at hx9922068_1); (try rw [show 0 * 2 = 0 from rfl] at hx9922068_1); (try rw [Addr.add_zero'] at hx9922068_1); have HR127_0 := a_ hi127_0; have HC127_0 := a_ hl9922068_0; clear hi127_0 hl9922068_0; have HR127_1 := a_ hi127_1; have HC127_1 := a_ hl9922068_1; clear hi127_1 hl9922068_1; replace p9922068 := eq_true p9922068; replace q9922068 := eq_true q9922068
          first
          | fail_if_success clear m2_2
          |(clear m2_2; have p9548309 : 0 ≤ (x6_3 : Int) := of_decide_eq_true y3_; have q9548309 : x6_3 < (((rd_T55 [a0] 0).f1).length : Int) := of_decide_eq_true y3_; obtain ⟨ad9548309, A128_2, c128_2, e9548309, hx9548309_0, hx9548309_1, hx9548309_2, hl9548309_2, hi128_2⟩ := at_T97 HR127_1.out x6_3 p9548309 q9548309; cases e9548309; have HR128_2 := a_ hi128_2; have HC128_2 := a_ hl9548309_2; clear hi128_2 hl9548309_2; replace p9548309 := eq_true p9548309; replace q9548309 := eq_true q9548309; go_upto_region 21 with (fail)
            repeat (go_quiet (fail); go_upto_region 21 with (fail))
            go_cut [129] (fun v9183820 wc => ∃ (kq : Nat) (x129_27 : Bool), v9183820 = .bool x129_27 ∧ Aside0 (spec_l6Fault.j5 kq a0 x6_3 ((rd_T55 [a0] 0).f1) x129_27 = some r) ∧ Aside0 (kq ≤ k3) ∧ Drawn0 w wc)
            case first =>
             have H := HC28.out; clear HC28; replace H := Option.bind_eq_some_iff.mp H; obtain ⟨tx4, Ay4, H⟩ := H; have Ax4 := a_ Ay4; clear Ay4; by_cases cx5 : tx4 = true; subst cx5; rw [if_pos rfl] at H; replace H := Option.bind_eq_some_iff.mp H; obtain ⟨tx6, Ay6, H⟩ := H; have Ax6 := a_ Ay6; clear Ay6; have H' := a_ H; clear H; have m3_0 := t_; have m3_1 := t_; rotate_left; replace cx5 := Bool.eq_false_iff.mpr cx5; subst cx5; rw [if_neg (show ¬ (false = true) by decide)] at H; have H' := a_ H; clear H; have m3_2 := t_; rotate_left
             all_goals (
              have p9922068 : 0 ≤ (x6_3 : Int) := of_decide_eq_true y3_; have q9922068 : x6_3 < (((rd_T55 [a0] 0).f1).length : Int) := of_decide_eq_true y3_; (try clear hx9548309_0 hx9548309_1 hx9548309_2); obtain ⟨ad9922068, A129_2, c129_2, e9922068, hx9922068_0, hx9922068_1, hx9749534_2, hl9749534_2, hi129_2⟩ := at_T97 HR127_1.out x6_3 p9922068 q9922068; obtain rfl : ad9548309 = ad9922068 := (by injection e9922068); have HR129_2 := a_ hi129_2; have HC129_2 := a_ hl9749534_2; clear hi129_2 hl9749534_2; replace p9922068 := eq_true p9922068; replace q9922068 := eq_true q9922068; go_wp2_with (first | (go_at_call 82; (with_reducible refine (spec_l1In.calls ((rd_T97 ((rd_T55 [a0] 0).f1) x6_3).f0) 0 (wrap64 ((((rd_T55 [a0] 0).f0).length : Int) - 1)) _ _ Ax4.out).mono ?_); rintro e w' ⟨rfl, ⟨nd, rfl⟩⟩; (try first | exact ⟨rfl, _, World.drewN_drewN _ _ _⟩ | exact ⟨rfl, _, Eq.trans (World.drewN_drewN _ _ _) (congrArg (World.drewN _) (Nat.add_assoc _ _ _))⟩)) | (have mkq_ := m3_0; clear mkq_; go_at_call 82; (with_reducible refine (spec_l1In.calls ((rd_T97 ((rd_T55 [a0] 0).f1) x6_3).f1) 0 (wrap64 ((((rd_T55 [a0] 0).f0).length : Int) - 1)) tx6 _ Ax6.out).mono ?_); rintro e w' ⟨rfl, ⟨nd, rfl⟩⟩; (try first | exact ⟨rfl, _, World.drewN_drewN _ _ _⟩ | exact ⟨rfl, _, Eq.trans (World.drewN_drewN _ _ _) (congrArg (World.drewN _) (Nat.add_assoc _ _ _))⟩)) | go_quiet (first | (go_at_call 82; (with_reducible refine (spec_l1In.calls ((rd_T97 ((rd_T55 [a0] 0).f1) x6_3).f0) 0 (wrap64 ((((rd_T55 [a0] 0).f0).length : Int) - 1)) _ _ Ax4.out).mono ?_); rintro e w' ⟨rfl, ⟨nd, rfl⟩⟩; (try first | exact ⟨rfl, _, World.drewN_drewN _ _ _⟩ | exact ⟨rfl, _, Eq.trans (World.drewN_drewN _ _ _) (congrArg (World.drewN _) (Nat.add_assoc _ _ _))⟩)) | (go_at_call 82; (with_reducible refine (spec_l1In.calls ((rd_T97 ((rd_T55 [a0] 0).f1) x6_3).f1) 0 (wrap64 ((((rd_T55 [a0] 0).f0).length : Int) - 1)) tx6 _ Ax6.out).mono ?_); rintro e w' ⟨rfl, ⟨nd, rfl⟩⟩; (try first | exact ⟨rfl, _, World.drewN_drewN _ _ _⟩ | exact ⟨rfl, _, Eq.trans (World.drewN_drewN _ _ _) (congrArg (World.drewN _) (Nat.add_assoc _ _ _))⟩))))
              go_meet
              first
              | fail_if_success clear m3_1
              |(clear m3_1
                case rel => exact ⟨_, (!tx6), y1_, H', ⟨by have := HJ1.out; have := HK2.out; have := HK3.out; first | omega | exact Nat.le_refl _⟩, y8_⟩)
              first
              | fail_if_success clear m3_2
              |(clear m3_2
                case rel => exact ⟨_, (true), y1_, H', ⟨by have := HJ1.out; have := HK2.out; have := HK3.out; first | omega | exact Nat.le_refl _⟩, y8_⟩))
            case rest =>
             clear HC28; (try clear qi1); (try clear cx0); (try clear cx1); (try clear cx1b0); (try clear qi11); (try clear qi12); (try clear cx2); (try clear cx2b0); (try clear cx3); (try clear cx3b0); (try clear hx116_0); (try clear hx116_1); (try clear hx117_0); (try clear hx117_1); (try clear hx9922068_0); (try clear hx9922068_1); (try clear hx9548309_0); (try clear hx9548309_1); (try clear hx9548309_2); (try clear p117); (try clear p9922068); (try clear p9548309); (try clear q117); (try clear q9922068); (try clear q9548309); obtain ⟨kq, x129_27, rfl, HA, HJ27, ⟨mc27, rfl⟩⟩ := hcut; cases kq with
             | zero => exact absurd HA.out (by simp [spec_l6Fault.j5])
             | succ kj27 =>
              have H := HA.out; clear HA; simp only [spec_l6Fault.j5] at H; by_cases cx4 : x129_27 = true; subst cx4; rw [if_pos rfl] at H; obtain rfl := Option.some.inj H; have m3_0 := t_; rotate_left; replace cx4 := Bool.eq_false_iff.mpr cx4; subst cx4; rw [if_neg (show ¬ (false = true) by decide)] at H; by_cases cx5 : 0 ≤ x6_3; rw [if_pos cx5] at H; have cx5b0 : decide (0 ≤ x6_3) = true := decide_eq_true cx5; clear cx5; by_cases cx6 : x6_3 < (((rd_T55 [a0] 0).f1).length : Int); rw [if_pos cx6] at H; have cx6b0 : decide (x6_3 < (((rd_T55 [a0] 0).f1).length : Int)) = true := decide_eq_true cx6; clear cx6; by_cases cx7 : (((rd_T97 ((rd_T55 [a0] 0).f1) x6_3).f2).length : Int) > 16; rw [if_pos cx7] at H; have cx7b0 : decide (16 < (((rd_T97 ((rd_T55 [a0] 0).f1) x6_3).f2).length : Int)) = true := decide_eq_true cx7; have cx7b1 : decide (16 < ((rd_T97 ((rd_T55 [a0] 0).f1) x6_3).f2).length) = true := decide_eq_true y104_; clear cx7; obtain rfl := Option.some.inj H; have m3_1 := t_; have m3_2 := t_; have m3_3 := t_; rotate_left; rw [if_neg cx7] at H; have cx7b0 : decide (16 < (((rd_T97 ((rd_T55 [a0] 0).f1) x6_3).f2).length : Int)) = false := decide_eq_false cx7; have cx7b1 : decide (16 < ((rd_T97 ((rd_T55 [a0] 0).f1) x6_3).f2).length) = false := decide_eq_false y104_; clear cx7; by_cases cx8 : x6_3 > 0; rw [if_pos cx8] at H; have cx8b0 : decide (0 < x6_3) = true := decide_eq_true cx8; clear cx8; obtain ⟨ji37, hji37⟩ : ∃ j_ : Int, (wrap64 (x6_3 - 1)) = j_ := ⟨_, rfl⟩; replace H : (if 0 ≤ (ji37) then (if (ji37) < (((rd_T55 [a0] 0).f1).length : Int) then (if ((rd_T97 ((rd_T55 [a0] 0).f1) x6_3).f0) < ((rd_T97 ((rd_T55 [a0] 0).f1) (ji37)).f0) then (some 1) else (spec_l6Fault.l1 kj27 a0 (wrap64 (x6_3 + 1)))) else (none)) else (none)) = some r := by first | (rw [hji37] at H; exact H) | (simp only [hji37] at H ⊢; exact H)
              have hji37w : (IntKind.i64.wrap (x6_3 - 1)) = ji37 := (i64_w _).trans hji37; by_cases cx9 : 0 ≤ (ji37); rw [if_pos cx9] at H; have cx9b0 : decide (0 ≤ (ji37)) = true := decide_eq_true cx9; clear cx9; by_cases cx10 : (ji37) < (((rd_T55 [a0] 0).f1).length : Int); rw [if_pos cx10] at H; have cx10b0 : decide ((ji37) < (((rd_T55 [a0] 0).f1).length : Int)) = true := decide_eq_true cx10; clear cx10; by_cases cx11 : ((rd_T97 ((rd_T55 [a0] 0).f1) x6_3).f0) < ((rd_T97 ((rd_T55 [a0] 0).f1) (ji37)).f0); rw [if_pos cx11] at H; have cx11b0 : decide (((rd_T97 ((rd_T55 [a0] 0).f1) x6_3).f0) < ((rd_T97 ((rd_T55 [a0] 0).f1) (ji37)).f0)) = true := decide_eq_true cx11; clear cx11; obtain rfl := Option.some.inj H; have m3_1 := t_; have m3_4 := t_; have m3_5 := t_; rotate_left; rw [if_neg cx11] at H; have cx11b0 : decide (((rd_T97 ((rd_T55 [a0] 0).f1) x6_3).f0) < ((rd_T97 ((rd_T55 [a0] 0).f1) (ji37)).f0)) = false := decide_eq_false cx11; clear cx11; have H' := a_ H; clear H; have m3_1 := t_; have m3_4 := t_; have m3_6 := t_; rotate_left
              ·rw [if_neg cx10] at H; exact absurd H y99_
              ·rw [if_neg cx9] at H; exact absurd H y99_
              rw [if_neg cx8] at H; have cx8b0 : decide (0 < x6_3) = false := decide_eq_false cx8; clear cx8; have H' := a_ H; clear H; have m3_1 := t_; have m3_2 := t_; have m3_6 := t_; rotate_left
              ·rw [if_neg cx6] at H; exact absurd H y99_
              ·rw [if_neg cx5] at H; exact absurd H y99_
              all_goals (
               first
               | fail_if_success clear m3_0
               |(clear m3_0; go_wp2
                 repeat (go_quiet (fail); try go_wp2)
                 go_ret
                 exact ⟨y1_, y8_⟩)
               first
               | fail_if_success clear m3_1
               |(clear m3_1; have p9922068 : 0 ≤ (x6_3 : Int) := of_decide_eq_true y3_; have q9922068 : x6_3 < (((rd_T55 [a0] 0).f1).length : Int) := of_decide_eq_true y3_; (try clear hx9548309_0 hx9548309_1 hx9548309_2 hx9183820_0 hx9183820_1 hx9183820_2); obtain ⟨ad9922068, A132_2, c132_2, e9922068, hx9922068_0, hx9922068_1, hx9749534_2, hl9749534_2, hi132_2⟩ := at_T97 HR127_1.out x6_3 p9922068 q9922068; obtain rfl : ad9548309 = ad9922068 := (by injection e9922068); have HR132_2 := a_ hi132_2; have HC132_2 := a_ hl9749534_2; clear hi132_2 hl9749534_2; replace p9922068 := eq_true p9922068; replace q9922068 := eq_true q9922068)
               first
               | fail_if_success clear m3_2
               |(clear m3_2; go_wp2
                 repeat (go_quiet (fail); try go_wp2))
               first
               | fail_if_success clear m3_3
               |(clear m3_3; go_ret
                 exact ⟨y1_, y8_⟩)
               first
               | fail_if_success clear m3_4
               |(clear m3_4; have p9058667 : 0 ≤ (0 : Int) := y104_; have q9058667 : 0 < ([a0].length : Int) := y99_; (try clear hx116_0 hx116_1 hx117_0 hx117_1 hx9922068_0 hx9922068_1); obtain ⟨ad9058667, A133_0, c133_0, A133_1, c133_1, e9058667, hx9058667_0, hx9058667_1, hl9058667_0, hi133_0, hl9058667_1, hi133_1⟩ := at_T55 HR0.out 0 p9058667 q9058667; obtain rfl : adp0 = ad9058667 := (by injection e9058667); have qi133 : (0 < [a0].length) = True := eq_true y104_; (try rw [show ((0 : Int)).toNat = 0 from rfl] at hx9058667_0); (try rw [show 0 * 2 = 0 from rfl] at hx9058667_0); (try rw [Addr.add_zero'] at hx9058667_0); (try rw [show ((0 : Int)).toNat = 0 from rfl] at hx9058667_1); (try rw [show 0 * 2 = 0 from rfl] at hx9058667_1); (try rw [Addr.add_zero'] at hx9058667_1); have HR133_0 := a_ hi133_0; have HC133_0 := a_ hl9058667_0; clear hi133_0 hl9058667_0; have HR133_1 := a_ hi133_1; have HC133_1 := a_ hl9058667_1; clear hi133_1 hl9058667_1; replace p9058667 := eq_true p9058667; replace q9058667 := eq_true q9058667; have p9450402 : 0 ≤ ((ji37) : Int) := of_decide_eq_true y3_; have q9450402 : (ji37) < (((rd_T55 [a0] 0).f1).length : Int) := of_decide_eq_true y3_; obtain ⟨ad9450402, A134_2, c134_2, e9450402, hx9450402_0, hx9450402_1, hx9450402_2, hl9450402_2, hi134_2⟩ := at_T97 HR133_1.out (ji37) p9450402 q9450402; cases e9450402; have HR134_2 := a_ hi134_2; have HC134_2 := a_ hl9450402_2; clear hi134_2 hl9450402_2; replace p9450402 := eq_true p9450402; replace q9450402 := eq_true q9450402; go_wp2
                 repeat (go_quiet (fail); try go_wp2))
               first
               | fail_if_success clear m3_5
               |(clear m3_5; go_ret
                 exact ⟨by first | rfl | (simp; done) | (simp only [← hji37] <;> (first | rfl | simp)) | (simp [*]; done), y8_⟩)
               first
               | fail_if_success clear m3_6
               |(clear m3_6; go_roundg kj27
                 case measure => have := HJ1.out; have := HK2.out; have := HK3.out; have := HJ27.out; omega
                 case rel => exact ⟨(wrap64 (x6_3 + 1)), y1_, H', ⟨by have := HJ1.out; have := HK2.out; have := HK3.out; have := HJ27.out; omega⟩, y8_⟩)))
          first
          | fail_if_success clear m2_3
          |(clear m2_3; go_wp2
            repeat (go_quiet (fail); try go_wp2)
            go_ret
            exact ⟨y1_, y8_⟩))

end Go.Proofs.YtmppibhdnajjjaaDoor.G
