-- Written by a program of this session's own (xp.py) for this seat.
import Derived.Test.YtcpcenhpmcfmjaaFZ
import Derived.Test.YtcpcenhpmcfmjaaF0
import Derived.Test.YtcpcenhpmcfmjaaF1
import Derived.Test.YtcpcenhpmcfmjaaF2
namespace Go.Proofs.Ytcpcenhpmcfmjaa.F
open Go.RowKit Go.Proofs.YtcpcenhpmcfmjaaW.PrintWords Go.Proofs.YtcpcenhpmcfmjaaW.PrintLast Go.Proofs.YtcpcenhpmcfmjaaW.PrintMore
attribute [local go_sem] Instr.field asAgg
attribute [local go_sem] max2_int min2_int max_two min_two max_three min_three max_four min_four   -- for this text's walks alone
set_option linter.unusedVariables false
set_option linter.unusedSimpArgs false

/-! ### spec_l1Name: function 112 -/
def spec_l1Name.l0 : Nat → ByteArray → Int → Option (Int)
  | 0, _, _ => none
  | k + 1, x0, x3 => if x3 < (x0.size : Int) then (if 0 ≤ x3 then (if (bt x0 x3) < 97 then (some 5) else (if (bt x0 x3) > 122 then (some 5) else (spec_l1Name.l0 k x0 (wrap64 (x3 + 1))))) else (none)) else (if x0.toList = ([] : List UInt8) then (some 5) else (if (x0.size : Int) > 8 then (some 2) else (some 0)))
def spec_l1Name.f (k : Nat) (a0 : ByteArray) : Option (Int) := spec_l1Name.l0 k a0 0
theorem spec_l1Name.mono_l : ∀ k, (∀ y0 y1, LeO (spec_l1Name.l0 k y0 y1) (spec_l1Name.l0 (k + 1) y0 y1))
  | 0 => fun _ _ r h => by simp [spec_l1Name.l0] at h
  | k + 1 => by
    have ih0 := spec_l1Name.mono_l k
    · intro y0 y1
      unfold spec_l1Name.l0
      repeat' (with_reducible first | exact ih0 _ _ | exact LeO.refl _ | exact LeO.none _ | refine LeO.ite ?_ ?_ | refine LeO.bind ?_ (fun _ => ?_))
theorem spec_l1Name.mono : ∀ a0 k, LeO (spec_l1Name.f k a0) (spec_l1Name.f (k + 1) a0) := by
  intro a0 k
  have ih0 := spec_l1Name.mono_l k
  unfold spec_l1Name.f
  repeat' (with_reducible first | exact ih0 _ _ | exact LeO.refl _ | exact LeO.none _ | refine LeO.ite ?_ ?_ | refine LeO.bind ?_ (fun _ => ?_))
set_option maxHeartbeats 8000000 in
set_option maxRecDepth 100000 in
theorem spec_l1Name.calls (k : Nat) (a0 : ByteArray) (r : Int) (w : World) (h : spec_l1Name.f k a0 = some r) :
    Calls Try.prog 112 #[.string a0] w fun e w' => e = .returned (.int .i64 r) ∧ Drawn0 w w' := by
 have H : (spec_l1Name.l0 k a0 0) = some r := h; clear h; have H' := a_ H; clear H; go_enter Try.func112, Try.ntmps112
 go_wp2
 go_loopg [3] k (fun kq v3 w' => ∃ (x3_1 : Int), v3 = .int .i64 x3_1 ∧ Aside0 (spec_l1Name.l0 kq a0 x3_1 = some r) ∧ Aside0 (kq ≤ k) ∧ Drawn0 w w')
 case atStart => exact ⟨(0), y6_, H', ⟨Nat.le_refl _⟩, y15_⟩
 case round =>
  clear H'; obtain ⟨x3_1, rfl, HA, HK1, ⟨m1, rfl⟩⟩ := hrel; cases gk with
  | zero => exact absurd HA.out (by simp [spec_l1Name.l0])
  | succ k1 =>
   have H := HA.out; clear HA; simp only [spec_l1Name.l0] at H; by_cases cx0 : x3_1 < (a0.size : Int); rw [if_pos cx0] at H; have cx0b0 : decide (x3_1 < (a0.size : Int)) = true := decide_eq_true cx0; clear cx0; by_cases cx1 : 0 ≤ x3_1; rw [if_pos cx1] at H; have cx1b0 : decide (0 ≤ x3_1) = true := decide_eq_true cx1; clear cx1; by_cases cx2 : (bt a0 x3_1) < 97; rw [if_pos cx2] at H; have cx2b0 : decide ((bt a0 x3_1) < 97) = true := decide_eq_true cx2; clear cx2; obtain rfl := Option.some.inj H; have m0_0 := t_; have m0_1 := t_; rotate_left; rw [if_neg cx2] at H; have cx2b0 : decide ((bt a0 x3_1) < 97) = false := decide_eq_false cx2; clear cx2; by_cases cx3 : (bt a0 x3_1) > 122; rw [if_pos cx3] at H; have cx3b0 : decide (122 < (bt a0 x3_1)) = true := decide_eq_true cx3; clear cx3; obtain rfl := Option.some.inj H; have m0_0 := t_; have m0_2 := t_; have m0_3 := t_; rotate_left; rw [if_neg cx3] at H; have cx3b0 : decide (122 < (bt a0 x3_1)) = false := decide_eq_false cx3; clear cx3; have H' := a_ H; clear H; have m0_0 := t_; have m0_2 := t_; have m0_4 := t_; rotate_left
   ·rw [if_neg cx1] at H; exact absurd H y166_
   rw [if_neg cx0] at H; have cx0b0 : decide (x3_1 < (a0.size : Int)) = false := decide_eq_false cx0; clear cx0; by_cases cx1 : a0.toList = ([] : List UInt8); rw [if_pos cx1] at H; have cx1b0 : (a0.toList == ([] : List UInt8)) = true := beq_iff_eq.mpr cx1; have cx1b1 : (a0.toList != ([] : List UInt8)) = false := bne_eq_false_iff_eq.mpr cx1; clear cx1; obtain rfl := Option.some.inj H; have m0_5 := t_; rotate_left; rw [if_neg cx1] at H; have cx1b0 : (a0.toList == ([] : List UInt8)) = false := beq_eq_false_iff_ne.mpr cx1; have cx1b1 : (a0.toList != ([] : List UInt8)) = true := bne_iff_ne.mpr cx1; by_cases cx2 : (a0.size : Int) > 8; rw [if_pos cx2] at H; have cx2b0 : decide (8 < (a0.size : Int)) = true := decide_eq_true cx2; have cx2b1 : decide (8 < a0.size) = true := decide_eq_true y165_; clear cx2; obtain rfl := Option.some.inj H; have m0_6 := t_; rotate_left; rw [if_neg cx2] at H; have cx2b0 : decide (8 < (a0.size : Int)) = false := decide_eq_false cx2; have cx2b1 : decide (8 < a0.size) = false := decide_eq_false y165_; clear cx2; obtain rfl := Option.some.inj H; have m0_7 := t_; rotate_left
   all_goals (
    first
    | fail_if_success clear m0_0
    |(clear m0_0; have p9922068 : 0 ≤ (x3_1 : Int) := of_decide_eq_true y7_; have q9922068 : x3_1 < (a0.size : Int) := of_decide_eq_true y7_; have hx9922068 := bt_at a0 x3_1; replace p9922068 := eq_true p9922068; replace q9922068 := eq_true q9922068)
    first
    | fail_if_success clear m0_1
    |(clear m0_1; go_wp2
      go_ret
      exact ⟨y6_, y15_⟩)
    first
    | fail_if_success clear m0_2
    |(clear m0_2; have p9548309 : 0 ≤ (x3_1 : Int) := of_decide_eq_true y7_; have q9548309 : x3_1 < (a0.size : Int) := of_decide_eq_true y7_; have hx9548309 := bt_at a0 x3_1; replace p9548309 := eq_true p9548309; replace q9548309 := eq_true q9548309; go_wp2)
    first
    | fail_if_success clear m0_3
    |(clear m0_3; go_ret
      exact ⟨y6_, y15_⟩)
    first
    | fail_if_success clear m0_4
    |(clear m0_4; go_roundg k1
      case measure => have := HK1.out; omega
      case rel => exact ⟨(wrap64 (x3_1 + 1)), y6_, H', ⟨y91_⟩, y15_⟩)
    first
    | fail_if_success clear m0_5
    |(clear m0_5; go_wp2
      go_ret
      exact ⟨y6_, y15_⟩)
    first
    | fail_if_success clear m0_6
    |(clear m0_6; go_wp2
      go_ret
      exact ⟨y6_, y15_⟩)
    first
    | fail_if_success clear m0_7
    |(clear m0_7; go_wp2
      go_ret
      exact ⟨y6_, y15_⟩))

/-! ### spec_l6Fault: function 81 -/
mutual
def spec_l6Fault.j0 : Nat → S34 → Bool → Option (Int)
  | 0, _, _ => none
  | k + 1, x0, x29 => if x29 = true then (some 2) else (spec_l6Fault.l0 k x0 0)
def spec_l6Fault.l0 : Nat → S34 → Int → Option (Int)
  | 0, _, _ => none
  | k + 1, x0, x3 => if x3 < (((rd_T34 [x0] 0).f0).length : Int) then (if 0 ≤ x3 then ((spec_l1In.f ((rd_T108 ((rd_T34 [x0] 0).f0) x3).f0) 1 13).bind fun t118 => (if t118 = true then ((spec_l6Bare.f (rd_T108 ((rd_T34 [x0] 0).f0) x3)).bind fun t119 => (spec_l6Fault.j2 k x0 x3 ((rd_T34 [x0] 0).f0) (!t119))) else (spec_l6Fault.j2 k x0 x3 ((rd_T34 [x0] 0).f0) true))) else (none)) else (spec_l6Fault.l1 k x0 0)
def spec_l6Fault.j2 : Nat → S34 → Int → List (S108) → Bool → Option (Int)
  | 0, _, _, _, _ => none
  | k + 1, x0, x3, x34, x55 => if x55 = true then (some 1) else (if 0 ≤ x3 then (if x3 < (x34.length : Int) then ((spec_l1In.f ((rd_T108 x34 x3).f1) 0 23).bind fun t121 => (if t121 = true then ((spec_l1In.f ((rd_T108 x34 x3).f3) 0 99).bind fun t122 => (spec_l6Fault.j3 k x0 x3 x34 (!t122))) else (spec_l6Fault.j3 k x0 x3 x34 true))) else (none)) else (none))
def spec_l6Fault.j3 : Nat → S34 → Int → List (S108) → Bool → Option (Int)
  | 0, _, _, _, _ => none
  | k + 1, x0, x3, x34, x69 => if x69 = true then (some 3) else (if 0 ≤ x3 then (if x3 < (x34.length : Int) then (if (((rd_T108 x34 x3).f4).length : Int) > 16 then (some 2) else (if ((rd_T108 x34 x3).f0) = 3 then ((spec_l1Name.f k ((rd_T108 x34 x3).f2)).bind fun t124 => (if t124 = 0 then (spec_l6Fault.l0 k x0 (wrap64 (x3 + 1))) else (some t124))) else (spec_l6Fault.l0 k x0 (wrap64 (x3 + 1))))) else (none)) else (none))
def spec_l6Fault.l1 : Nat → S34 → Int → Option (Int)
  | 0, _, _ => none
  | k + 1, x0, x6 => if x6 < (((rd_T34 [x0] 0).f1).length : Int) then (if 0 ≤ x6 then ((spec_l1In.f ((rd_T106 ((rd_T34 [x0] 0).f1) x6).f0) 0 (wrap64 ((((rd_T34 [x0] 0).f0).length : Int) - 1))).bind fun t128 => (if t128 = true then ((spec_l1In.f ((rd_T106 ((rd_T34 [x0] 0).f1) x6).f1) 0 (wrap64 ((((rd_T34 [x0] 0).f0).length : Int) - 1))).bind fun t129 => (spec_l6Fault.j5 k x0 x6 ((rd_T34 [x0] 0).f1) (!t129))) else (spec_l6Fault.j5 k x0 x6 ((rd_T34 [x0] 0).f1) true))) else (none)) else (some 0)
def spec_l6Fault.j5 : Nat → S34 → Int → List (S106) → Bool → Option (Int)
  | 0, _, _, _, _ => none
  | k + 1, x0, x6, x93, x129 => if x129 = true then (some 3) else (if 0 ≤ x6 then (if x6 < (x93.length : Int) then (if (((rd_T106 x93 x6).f2).length : Int) > 16 then (some 2) else (if x6 > 0 then (if 0 ≤ (wrap64 (x6 - 1)) then (if (wrap64 (x6 - 1)) < (((rd_T34 [x0] 0).f1).length : Int) then (if ((rd_T106 x93 x6).f0) < ((rd_T106 ((rd_T34 [x0] 0).f1) (wrap64 (x6 - 1))).f0) then (some 1) else (spec_l6Fault.l1 k x0 (wrap64 (x6 + 1)))) else (none)) else (none)) else (spec_l6Fault.l1 k x0 (wrap64 (x6 + 1))))) else (none)) else (none))
end
def spec_l6Fault.f (k : Nat) (a0 : S34) : Option (Int) := if (((rd_T34 [a0] 0).f0).length : Int) < 2 then (spec_l6Fault.j0 k a0 true) else (if (((rd_T34 [a0] 0).f0).length : Int) > 60 then (spec_l6Fault.j0 k a0 true) else (spec_l6Fault.j0 k a0 (decide ((((rd_T34 [a0] 0).f1).length : Int) > 80))))
theorem spec_l6Fault.mono_l : ∀ k, (∀ y0 y1, LeO (spec_l6Fault.j0 k y0 y1) (spec_l6Fault.j0 (k + 1) y0 y1)) ∧ (∀ y0 y1, LeO (spec_l6Fault.l0 k y0 y1) (spec_l6Fault.l0 (k + 1) y0 y1)) ∧ (∀ y0 y1 y2 y3, LeO (spec_l6Fault.j2 k y0 y1 y2 y3) (spec_l6Fault.j2 (k + 1) y0 y1 y2 y3)) ∧ (∀ y0 y1 y2 y3, LeO (spec_l6Fault.j3 k y0 y1 y2 y3) (spec_l6Fault.j3 (k + 1) y0 y1 y2 y3)) ∧ (∀ y0 y1, LeO (spec_l6Fault.l1 k y0 y1) (spec_l6Fault.l1 (k + 1) y0 y1)) ∧ (∀ y0 y1 y2 y3, LeO (spec_l6Fault.j5 k y0 y1 y2 y3) (spec_l6Fault.j5 (k + 1) y0 y1 y2 y3))
  | 0 => ⟨fun _ _ r h => by simp [spec_l6Fault.j0] at h, fun _ _ r h => by simp [spec_l6Fault.l0] at h, fun _ _ _ _ r h => by simp [spec_l6Fault.j2] at h, fun _ _ _ _ r h => by simp [spec_l6Fault.j3] at h, fun _ _ r h => by simp [spec_l6Fault.l1] at h, fun _ _ _ _ r h => by simp [spec_l6Fault.j5] at h⟩
  | k + 1 => by
    obtain ⟨ih0, ih1, ih2, ih3, ih4, ih5⟩ := spec_l6Fault.mono_l k
    refine ⟨?_, ?_, ?_, ?_, ?_, ?_⟩
    · intro y0 y1
      unfold spec_l6Fault.j0
      repeat' (with_reducible first | exact ih0 _ _ | exact ih1 _ _ | exact ih2 _ _ _ _ | exact ih3 _ _ _ _ | exact ih4 _ _ | exact ih5 _ _ _ _ | exact spec_l1Name.mono _ _ | exact LeO.refl _ | exact LeO.none _ | refine LeO.ite ?_ ?_ | refine LeO.bind ?_ (fun _ => ?_))
    · intro y0 y1
      unfold spec_l6Fault.l0
      repeat' (with_reducible first | exact ih0 _ _ | exact ih1 _ _ | exact ih2 _ _ _ _ | exact ih3 _ _ _ _ | exact ih4 _ _ | exact ih5 _ _ _ _ | exact spec_l1Name.mono _ _ | exact LeO.refl _ | exact LeO.none _ | refine LeO.ite ?_ ?_ | refine LeO.bind ?_ (fun _ => ?_))
    · intro y0 y1 y2 y3
      unfold spec_l6Fault.j2
      repeat' (with_reducible first | exact ih0 _ _ | exact ih1 _ _ | exact ih2 _ _ _ _ | exact ih3 _ _ _ _ | exact ih4 _ _ | exact ih5 _ _ _ _ | exact spec_l1Name.mono _ _ | exact LeO.refl _ | exact LeO.none _ | refine LeO.ite ?_ ?_ | refine LeO.bind ?_ (fun _ => ?_))
    · intro y0 y1 y2 y3
      unfold spec_l6Fault.j3
      repeat' (with_reducible first | exact ih0 _ _ | exact ih1 _ _ | exact ih2 _ _ _ _ | exact ih3 _ _ _ _ | exact ih4 _ _ | exact ih5 _ _ _ _ | exact spec_l1Name.mono _ _ | exact LeO.refl _ | exact LeO.none _ | refine LeO.ite ?_ ?_ | refine LeO.bind ?_ (fun _ => ?_))
    · intro y0 y1
      unfold spec_l6Fault.l1
      repeat' (with_reducible first | exact ih0 _ _ | exact ih1 _ _ | exact ih2 _ _ _ _ | exact ih3 _ _ _ _ | exact ih4 _ _ | exact ih5 _ _ _ _ | exact spec_l1Name.mono _ _ | exact LeO.refl _ | exact LeO.none _ | refine LeO.ite ?_ ?_ | refine LeO.bind ?_ (fun _ => ?_))
    · intro y0 y1 y2 y3
      unfold spec_l6Fault.j5
      repeat' (with_reducible first | exact ih0 _ _ | exact ih1 _ _ | exact ih2 _ _ _ _ | exact ih3 _ _ _ _ | exact ih4 _ _ | exact ih5 _ _ _ _ | exact spec_l1Name.mono _ _ | exact LeO.refl _ | exact LeO.none _ | refine LeO.ite ?_ ?_ | refine LeO.bind ?_ (fun _ => ?_))
theorem spec_l6Fault.mono : ∀ a0 k, LeO (spec_l6Fault.f k a0) (spec_l6Fault.f (k + 1) a0) := by
  intro a0 k
  obtain ⟨ih0, ih1, ih2, ih3, ih4, ih5⟩ := spec_l6Fault.mono_l k
  unfold spec_l6Fault.f
  repeat' (with_reducible first | exact ih0 _ _ | exact ih1 _ _ | exact ih2 _ _ _ _ | exact ih3 _ _ _ _ | exact ih4 _ _ | exact ih5 _ _ _ _ | exact spec_l1Name.mono _ _ | exact LeO.refl _ | exact LeO.none _ | refine LeO.ite ?_ ?_ | refine LeO.bind ?_ (fun _ => ?_))
set_option maxHeartbeats 8000000 in
set_option maxRecDepth 100000 in
theorem spec_l6Fault.calls (k : Nat) (adp0 : Addr) (a0 : S34) (r : Int) (w : World) (hr0 : Kd.C k34 w (some adp0) 1 [a0]) (h : spec_l6Fault.f k a0 = some r) :
    Calls Try.prog 81 #[.pointer (some adp0)] w fun e w' => e = .returned (.int .i64 r) ∧ Drawn0 w w' := by
 have HR0 := a_ hr0; clear hr0; have H : (if (((rd_T34 [a0] 0).f0).length : Int) < 2 then (spec_l6Fault.j0 k a0 true) else (if (((rd_T34 [a0] 0).f0).length : Int) > 60 then (spec_l6Fault.j0 k a0 true) else (spec_l6Fault.j0 k a0 (decide ((((rd_T34 [a0] 0).f1).length : Int) > 80))))) = some r := h; clear h; have HC2 := a_ H; clear H; go_enter Try.func81, Try.ntmps81
 go_upto_region 1 with (fail)
 repeat (go_quiet (fail); go_upto_region 1 with (fail))
 go_cut [29] (fun v29 wc => ∃ (kq : Nat) (x29_1 : Bool), v29 = .bool x29_1 ∧ Aside0 (spec_l6Fault.j0 kq a0 x29_1 = some r) ∧ Aside0 (kq ≤ k) ∧ Drawn0 w wc)
 case first =>
  have H := HC2.out; clear HC2; by_cases cx0 : (((rd_T34 [a0] 0).f0).length : Int) < 2; rw [if_pos cx0] at H; have cx0b0 : decide ((((rd_T34 [a0] 0).f0).length : Int) < 2) = true := decide_eq_true cx0; have cx0b1 : decide (((rd_T34 [a0] 0).f0).length < 2) = true := decide_eq_true y165_; clear cx0; (first | rw [cx0b0] | (simp only [i64_w, i32_w]; rw [cx0b0]) | skip); have H' := a_ H; clear H; have m0_0 := t_; rotate_left; rw [if_neg cx0] at H; have cx0b0 : decide ((((rd_T34 [a0] 0).f0).length : Int) < 2) = false := decide_eq_false cx0; have cx0b1 : decide (((rd_T34 [a0] 0).f0).length < 2) = false := decide_eq_false y165_; clear cx0; (first | rw [cx0b0] | (simp only [i64_w, i32_w]; rw [cx0b0]) | skip); by_cases cx1 : (((rd_T34 [a0] 0).f0).length : Int) > 60; rw [if_pos cx1] at H; have cx1b0 : decide (60 < (((rd_T34 [a0] 0).f0).length : Int)) = true := decide_eq_true cx1; have cx1b1 : decide (60 < ((rd_T34 [a0] 0).f0).length) = true := decide_eq_true y165_; clear cx1; have H' := a_ H; clear H; have m0_0 := t_; rotate_left; rw [if_neg cx1] at H; have cx1b0 : decide (60 < (((rd_T34 [a0] 0).f0).length : Int)) = false := decide_eq_false cx1; have cx1b1 : decide (60 < ((rd_T34 [a0] 0).f0).length) = false := decide_eq_false y165_; clear cx1; have H' := a_ H; clear H; have m0_1 := t_; rotate_left
  all_goals (
   have p9922068 : 0 ≤ (0 : Int) := y165_; have q9922068 : 0 < ([a0].length : Int) := y166_; obtain ⟨ad9922068, A114_0, c114_0, A114_1, c114_1, e9922068, hx9922068_0, hx9922068_1, hl9922068_0, hi114_0, hl9922068_1, hi114_1⟩ := at_T34 HR0.out 0 p9922068 q9922068; obtain rfl : adp0 = ad9922068 := (by injection e9922068); have qi114 : (0 < [a0].length) = True := eq_true y165_; (try rw [show ((0 : Int)).toNat = 0 from rfl] at hx9922068_0); (try rw [show 0 * 2 = 0 from rfl] at hx9922068_0); (try rw [Addr.add_zero'] at hx9922068_0); (try rw [show ((0 : Int)).toNat = 0 from rfl] at hx9922068_1); (try rw [show 0 * 2 = 0 from rfl] at hx9922068_1); (try rw [Addr.add_zero'] at hx9922068_1); have HR114_0 := a_ hi114_0; have HC114_0 := a_ hl9922068_0; clear hi114_0 hl9922068_0; have HR114_1 := a_ hi114_1; have HC114_1 := a_ hl9922068_1; clear hi114_1 hl9922068_1; replace p9922068 := eq_true p9922068; replace q9922068 := eq_true q9922068; go_wp2
   repeat (go_quiet (fail); try go_wp2)
   go_meet
   first
   | fail_if_success clear m0_0
   |(clear m0_0
     case rel => exact ⟨_, (true), y6_, H', ⟨y161_⟩, y15_⟩)
   first
   | fail_if_success clear m0_1
   |(clear m0_1
     case rel => exact ⟨_, (decide ((((rd_T34 [a0] 0).f1).length : Int) > 80)), y6_, H', ⟨y161_⟩, y15_⟩))
 case rest =>
  clear HC2; (try clear qi1); obtain ⟨kq, x29_1, rfl, HA, HJ1, ⟨mc1, rfl⟩⟩ := hcut; cases kq with
  | zero => exact absurd HA.out (by simp [spec_l6Fault.j0])
  | succ kj1 =>
   have H := HA.out; clear HA; simp only [spec_l6Fault.j0] at H; by_cases cx0 : x29_1 = true
   ·subst cx0; rw [if_pos rfl] at H; obtain rfl := Option.some.inj H; go_wp2
    repeat (go_quiet (fail); try go_wp2)
    go_ret
    exact ⟨y6_, y15_⟩
   ·replace cx0 := Bool.eq_false_iff.mpr cx0; subst cx0; rw [if_neg (show ¬ (false = true) by decide)] at H; have H' := a_ H; clear H; go_wp2
    repeat (go_quiet (fail); try go_wp2)
    go_loopg [3] kj1 (fun kq v3 w' => ∃ (x3_2 : Int), v3 = .int .i64 x3_2 ∧ Aside0 (spec_l6Fault.l0 kq a0 x3_2 = some r) ∧ Aside0 (kq ≤ kj1) ∧ Drawn0 w w')
    case atStart => exact ⟨(0), y6_, H', ⟨Nat.le_refl _⟩, y15_⟩
    case round =>
     clear H'; (try clear qi1); (try clear cx0); obtain ⟨x3_2, rfl, HA, HK2, ⟨m2, rfl⟩⟩ := hrel; cases gk with
     | zero => exact absurd HA.out (by simp [spec_l6Fault.l0])
     | succ k2 =>
      have H := HA.out; clear HA; simp only [spec_l6Fault.l0] at H; by_cases cx1 : x3_2 < (((rd_T34 [a0] 0).f0).length : Int)
      ·rw [if_pos cx1] at H; have cx1b0 : decide (x3_2 < (((rd_T34 [a0] 0).f0).length : Int)) = true := decide_eq_true cx1; clear cx1; by_cases cx2 : 0 ≤ x3_2
       ·rw [if_pos cx2] at H; have cx2b0 : decide (0 ≤ x3_2) = true := decide_eq_true cx2; clear cx2; have HC8 := a_ H; clear H; have p115 : 0 ≤ (0 : Int) := y165_; have q115 : 0 < ([a0].length : Int) := y166_; obtain ⟨ad115, A115_0, c115_0, A115_1, c115_1, e115, hx115_0, hx115_1, hl115_0, hi115_0, hl115_1, hi115_1⟩ := at_T34 HR0.out 0 p115 q115; obtain rfl : adp0 = ad115 := (by injection e115); have qi115 : (0 < [a0].length) = True := eq_true y165_; (try rw [show ((0 : Int)).toNat = 0 from rfl] at hx115_0); (try rw [show 0 * 2 = 0 from rfl] at hx115_0); (try rw [Addr.add_zero'] at hx115_0); (try rw [show ((0 : Int)).toNat = 0 from rfl] at hx115_1); (try rw [show 0 * 2 = 0 from rfl] at hx115_1); (try rw [Addr.add_zero'] at hx115_1); have HR115_0 := a_ hi115_0; have HC115_0 := a_ hl115_0; clear hi115_0 hl115_0; have HR115_1 := a_ hi115_1; have HC115_1 := a_ hl115_1; clear hi115_1 hl115_1; replace p115 := eq_true p115; replace q115 := eq_true q115; have p116 : 0 ≤ (x3_2 : Int) := of_decide_eq_true y7_; have q116 : x3_2 < (((rd_T34 [a0] 0).f0).length : Int) := of_decide_eq_true y7_; have BD116 := a_ (And.intro p116 q116); obtain ⟨ad116, A116_4, c116_4, e116, hx116_0, hx116_1, hx116_2, hx116_3, hx116_4, hl116_4, hi116_4⟩ := at_T108 HR115_0.out x3_2 p116 q116; cases e116; have HR116_4 := a_ hi116_4; have HC116_4 := a_ hl116_4; clear hi116_4 hl116_4; replace p116 := eq_true p116; replace q116 := eq_true q116; go_upto_region 7 with (fail)
        repeat (go_quiet (fail); go_upto_region 7 with (fail))
        go_cut [55] (fun v55 wc => ∃ (kq : Nat) (x55_7 : Bool), v55 = .bool x55_7 ∧ Aside0 (spec_l6Fault.j2 kq a0 x3_2 ((rd_T34 [a0] 0).f0) x55_7 = some r) ∧ Aside0 (kq ≤ k2) ∧ Drawn0 w wc)
        case first =>
         have H := HC8.out; clear HC8; replace H := Option.bind_eq_some_iff.mp H; obtain ⟨tx3, Ay3, H⟩ := H; have Ax3 := a_ Ay3; clear Ay3; by_cases cx4 : tx3 = true; subst cx4; rw [if_pos rfl] at H; replace H := Option.bind_eq_some_iff.mp H; obtain ⟨tx5, Ay5, H⟩ := H; have Ax5 := a_ Ay5; clear Ay5; have H' := a_ H; clear H; have m2_0 := t_; rotate_left; replace cx4 := Bool.eq_false_iff.mpr cx4; subst cx4; rw [if_neg (show ¬ (false = true) by decide)] at H; have H' := a_ H; clear H; have m2_1 := t_; rotate_left
         all_goals (
          have p9922068 : 0 ≤ (x3_2 : Int) := of_decide_eq_true y7_; have q9922068 : x3_2 < (((rd_T34 [a0] 0).f0).length : Int) := of_decide_eq_true y7_; obtain ⟨ad9922068, A117_4, c117_4, e9922068, hx9922068_0, hx9922068_1, hx9922068_2, hx9922068_3, hx9922068_4, hl9922068_4, hi117_4⟩ := at_T108 HR115_0.out x3_2 p9922068 q9922068; obtain rfl : ad116 = ad9922068 := (by injection e9922068); have HR117_4 := a_ hi117_4; have HC117_4 := a_ hl9922068_4; clear hi117_4 hl9922068_4; replace p9922068 := eq_true p9922068; replace q9922068 := eq_true q9922068; go_wp2_with (first | (go_at_call 74; (with_reducible refine (spec_l1In.calls ((rd_T108 ((rd_T34 [a0] 0).f0) x3_2).f0) 1 13 _ _ Ax3.out).mono ?_); rintro e w' ⟨rfl, ⟨nd, rfl⟩⟩; (try first | exact ⟨rfl, _, World.drewN_drewN _ _ _⟩ | exact ⟨rfl, _, Eq.trans (World.drewN_drewN _ _ _) (congrArg (World.drewN _) (Nat.add_assoc _ _ _))⟩)) | (go_at_call 111; (with_reducible refine (spec_l6Bare.calls _ (rd_T108 ((rd_T34 [a0] 0).f0) x3_2) tx5 _ ?side1 Ax5.out).mono ?_); (case side1 => refine C_one (by repeat (first | exact HR115_0.out | (with_reducible refine Kd.C_alloc ?_ _) | (with_reducible refine Kd.C_drewN ?_ _) | (with_reducible refine Kd.C_drew ?_))) x3_2 (by first | exact BD116.out.1 | omega | exact of_decide_eq_true y7_) (by first | exact BD116.out.2 | exact of_decide_eq_true y7_ | omega) _ rfl); rintro e w' ⟨rfl, ⟨nd, rfl⟩⟩; (try first | exact ⟨rfl, _, World.drewN_drewN _ _ _⟩ | exact ⟨rfl, _, Eq.trans (World.drewN_drewN _ _ _) (congrArg (World.drewN _) (Nat.add_assoc _ _ _))⟩)) | go_quiet (first | (go_at_call 74; (with_reducible refine (spec_l1In.calls ((rd_T108 ((rd_T34 [a0] 0).f0) x3_2).f0) 1 13 _ _ Ax3.out).mono ?_); rintro e w' ⟨rfl, ⟨nd, rfl⟩⟩; (try first | exact ⟨rfl, _, World.drewN_drewN _ _ _⟩ | exact ⟨rfl, _, Eq.trans (World.drewN_drewN _ _ _) (congrArg (World.drewN _) (Nat.add_assoc _ _ _))⟩)) | (go_at_call 111; (with_reducible refine (spec_l6Bare.calls _ (rd_T108 ((rd_T34 [a0] 0).f0) x3_2) tx5 _ ?side1 Ax5.out).mono ?_); (case side1 => refine C_one (by repeat (first | exact HR115_0.out | (with_reducible refine Kd.C_alloc ?_ _) | (with_reducible refine Kd.C_drewN ?_ _) | (with_reducible refine Kd.C_drew ?_))) x3_2 (by first | exact BD116.out.1 | omega | exact of_decide_eq_true y7_) (by first | exact BD116.out.2 | exact of_decide_eq_true y7_ | omega) _ rfl); rintro e w' ⟨rfl, ⟨nd, rfl⟩⟩; (try first | exact ⟨rfl, _, World.drewN_drewN _ _ _⟩ | exact ⟨rfl, _, Eq.trans (World.drewN_drewN _ _ _) (congrArg (World.drewN _) (Nat.add_assoc _ _ _))⟩))))
          go_meet
          first
          | fail_if_success clear m2_0
          |(clear m2_0
            case rel => exact ⟨_, (!tx5), y6_, H', ⟨by have := HJ1.out; have := HK2.out; first | omega | exact Nat.le_refl _⟩, y15_⟩)
          first
          | fail_if_success clear m2_1
          |(clear m2_1
            case rel => exact ⟨_, (true), y6_, H', ⟨by have := HJ1.out; have := HK2.out; first | omega | exact Nat.le_refl _⟩, y15_⟩))
        case rest =>
         clear HC8; (try clear qi1); (try clear cx0); (try clear cx1); (try clear cx1b0); (try clear cx2); (try clear cx2b0); (try clear qi11); (try clear hx115_0); (try clear hx115_1); (try clear hx116_0); (try clear hx116_1); (try clear hx116_2); (try clear hx116_3); (try clear hx116_4); (try clear p115); (try clear p116); (try clear q115); (try clear q116); obtain ⟨kq, x55_7, rfl, HA, HJ7, ⟨mc7, rfl⟩⟩ := hcut; cases kq with
         | zero => exact absurd HA.out (by simp [spec_l6Fault.j2])
         | succ kj7 =>
          have H := HA.out; clear HA; simp only [spec_l6Fault.j2] at H; by_cases cx3 : x55_7 = true
          ·subst cx3; rw [if_pos rfl] at H; obtain rfl := Option.some.inj H; go_wp2
           repeat (go_quiet (fail); try go_wp2)
           go_ret
           exact ⟨y6_, y15_⟩
          ·replace cx3 := Bool.eq_false_iff.mpr cx3; subst cx3; rw [if_neg (show ¬ (false = true) by decide)] at H; have HC13 := a_ H; clear H; go_upto_region 9 with (fail)
           repeat (go_quiet (fail); go_upto_region 9 with (fail))
           go_cut [69] (fun v69 wc => ∃ (kq : Nat) (x69_12 : Bool), v69 = .bool x69_12 ∧ Aside0 (spec_l6Fault.j3 kq a0 x3_2 ((rd_T34 [a0] 0).f0) x69_12 = some r) ∧ Aside0 (kq ≤ kj7) ∧ Drawn0 w wc)
           case first =>
            have H := HC13.out; clear HC13; by_cases cx4 : 0 ≤ x3_2; rw [if_pos cx4] at H; have cx4b0 : decide (0 ≤ x3_2) = true := decide_eq_true cx4; clear cx4; (first | rw [cx4b0] | (simp only [i64_w, i32_w]; rw [cx4b0]) | skip); by_cases cx5 : x3_2 < (((rd_T34 [a0] 0).f0).length : Int); rw [if_pos cx5] at H; have cx5b0 : decide (x3_2 < (((rd_T34 [a0] 0).f0).length : Int)) = true := decide_eq_true cx5; clear cx5; replace H := Option.bind_eq_some_iff.mp H; obtain ⟨tx6, Ay6, H⟩ := H; have Ax6 := a_ Ay6; clear Ay6; by_cases cx7 : tx6 = true; subst cx7; rw [if_pos rfl] at H; replace H := Option.bind_eq_some_iff.mp H; obtain ⟨tx8, Ay8, H⟩ := H; have Ax8 := a_ Ay8; clear Ay8; have H' := a_ H; clear H; have m3_0 := t_; have m3_1 := t_; rotate_left; replace cx7 := Bool.eq_false_iff.mpr cx7; subst cx7; rw [if_neg (show ¬ (false = true) by decide)] at H; have H' := a_ H; clear H; have m3_2 := t_; rotate_left
            ·rw [if_neg cx5] at H; exact absurd H y166_
            ·rw [if_neg cx4] at H; exact absurd H y166_
            all_goals (
             have p9922068 : 0 ≤ (x3_2 : Int) := of_decide_eq_true y7_; have q9922068 : x3_2 < (((rd_T34 [a0] 0).f0).length : Int) := of_decide_eq_true y7_; obtain ⟨ad9922068, A120_4, c120_4, e9922068, hx9922068_0, hx9922068_1, hx9922068_2, hx9922068_3, hx9922068_4, hl9922068_4, hi120_4⟩ := at_T108 HR115_0.out x3_2 p9922068 q9922068; obtain rfl : ad116 = ad9922068 := (by injection e9922068); have HR120_4 := a_ hi120_4; have HC120_4 := a_ hl9922068_4; clear hi120_4 hl9922068_4; replace p9922068 := eq_true p9922068; replace q9922068 := eq_true q9922068; go_wp2_with (first | (go_at_call 74; (with_reducible refine (spec_l1In.calls ((rd_T108 ((rd_T34 [a0] 0).f0) x3_2).f1) 0 23 _ _ Ax6.out).mono ?_); rintro e w' ⟨rfl, ⟨nd, rfl⟩⟩; (try first | exact ⟨rfl, _, World.drewN_drewN _ _ _⟩ | exact ⟨rfl, _, Eq.trans (World.drewN_drewN _ _ _) (congrArg (World.drewN _) (Nat.add_assoc _ _ _))⟩)) | (have mkq_ := m3_0; clear mkq_; go_at_call 74; (with_reducible refine (spec_l1In.calls ((rd_T108 ((rd_T34 [a0] 0).f0) x3_2).f3) 0 99 tx8 _ Ax8.out).mono ?_); rintro e w' ⟨rfl, ⟨nd, rfl⟩⟩; (try first | exact ⟨rfl, _, World.drewN_drewN _ _ _⟩ | exact ⟨rfl, _, Eq.trans (World.drewN_drewN _ _ _) (congrArg (World.drewN _) (Nat.add_assoc _ _ _))⟩)) | go_quiet (first | (go_at_call 74; (with_reducible refine (spec_l1In.calls ((rd_T108 ((rd_T34 [a0] 0).f0) x3_2).f1) 0 23 _ _ Ax6.out).mono ?_); rintro e w' ⟨rfl, ⟨nd, rfl⟩⟩; (try first | exact ⟨rfl, _, World.drewN_drewN _ _ _⟩ | exact ⟨rfl, _, Eq.trans (World.drewN_drewN _ _ _) (congrArg (World.drewN _) (Nat.add_assoc _ _ _))⟩)) | (go_at_call 74; (with_reducible refine (spec_l1In.calls ((rd_T108 ((rd_T34 [a0] 0).f0) x3_2).f3) 0 99 tx8 _ Ax8.out).mono ?_); rintro e w' ⟨rfl, ⟨nd, rfl⟩⟩; (try first | exact ⟨rfl, _, World.drewN_drewN _ _ _⟩ | exact ⟨rfl, _, Eq.trans (World.drewN_drewN _ _ _) (congrArg (World.drewN _) (Nat.add_assoc _ _ _))⟩))))
             go_meet
             first
             | fail_if_success clear m3_1
             |(clear m3_1
               case rel => exact ⟨_, (!tx8), y6_, H', ⟨by have := HJ1.out; have := HK2.out; have := HJ7.out; first | omega | exact Nat.le_refl _⟩, y15_⟩)
             first
             | fail_if_success clear m3_2
             |(clear m3_2
               case rel => exact ⟨_, (true), y6_, H', ⟨by have := HJ1.out; have := HK2.out; have := HJ7.out; first | omega | exact Nat.le_refl _⟩, y15_⟩))
           case rest =>
            clear HC13; (try clear qi1); (try clear cx0); (try clear cx1); (try clear cx1b0); (try clear cx2); (try clear cx2b0); (try clear qi11); (try clear cx3); (try clear hx115_0); (try clear hx115_1); (try clear hx116_0); (try clear hx116_1); (try clear hx116_2); (try clear hx116_3); (try clear hx116_4); (try clear p115); (try clear p116); (try clear q115); (try clear q116); obtain ⟨kq, x69_12, rfl, HA, HJ12, ⟨mc12, rfl⟩⟩ := hcut; cases kq with
            | zero => exact absurd HA.out (by simp [spec_l6Fault.j3])
            | succ kj12 =>
             have H := HA.out; clear HA; simp only [spec_l6Fault.j3] at H; by_cases cx4 : x69_12 = true; subst cx4; rw [if_pos rfl] at H; obtain rfl := Option.some.inj H; have m3_0 := t_; rotate_left; replace cx4 := Bool.eq_false_iff.mpr cx4; subst cx4; rw [if_neg (show ¬ (false = true) by decide)] at H; by_cases cx5 : 0 ≤ x3_2; rw [if_pos cx5] at H; have cx5b0 : decide (0 ≤ x3_2) = true := decide_eq_true cx5; clear cx5; by_cases cx6 : x3_2 < (((rd_T34 [a0] 0).f0).length : Int); rw [if_pos cx6] at H; have cx6b0 : decide (x3_2 < (((rd_T34 [a0] 0).f0).length : Int)) = true := decide_eq_true cx6; clear cx6; by_cases cx7 : (((rd_T108 ((rd_T34 [a0] 0).f0) x3_2).f4).length : Int) > 16; rw [if_pos cx7] at H; have cx7b0 : decide (16 < (((rd_T108 ((rd_T34 [a0] 0).f0) x3_2).f4).length : Int)) = true := decide_eq_true cx7; have cx7b1 : decide (16 < ((rd_T108 ((rd_T34 [a0] 0).f0) x3_2).f4).length) = true := decide_eq_true y165_; clear cx7; obtain rfl := Option.some.inj H; have m3_1 := t_; have m3_2 := t_; have m3_3 := t_; rotate_left; rw [if_neg cx7] at H; have cx7b0 : decide (16 < (((rd_T108 ((rd_T34 [a0] 0).f0) x3_2).f4).length : Int)) = false := decide_eq_false cx7; have cx7b1 : decide (16 < ((rd_T108 ((rd_T34 [a0] 0).f0) x3_2).f4).length) = false := decide_eq_false y165_; clear cx7; by_cases cx8 : ((rd_T108 ((rd_T34 [a0] 0).f0) x3_2).f0) = 3; rw [if_pos cx8] at H; have cx8b0 : (((rd_T108 ((rd_T34 [a0] 0).f0) x3_2).f0) == 3) = true := beq_iff_eq.mpr cx8; have cx8b1 : (((rd_T108 ((rd_T34 [a0] 0).f0) x3_2).f0) != 3) = false := bne_eq_false_iff_eq.mpr cx8; clear cx8; replace H := Option.bind_eq_some_iff.mp H; obtain ⟨tx9, Ay9, H⟩ := H; have Ax9 := a_ Ay9; clear Ay9; by_cases cx10 : tx9 = 0; rw [if_pos cx10] at H; have cx10b0 : (tx9 == 0) = true := beq_iff_eq.mpr cx10; have cx10b1 : (tx9 != 0) = false := bne_eq_false_iff_eq.mpr cx10; clear cx10; have H' := a_ H; clear H; have m3_1 := t_; have m3_4 := t_; have m3_5 := t_; rotate_left; rw [if_neg cx10] at H; have cx10b0 : (tx9 == 0) = false := beq_eq_false_iff_ne.mpr cx10; have cx10b1 : (tx9 != 0) = true := bne_iff_ne.mpr cx10; obtain rfl := Option.some.inj H; have m3_1 := t_; have m3_4 := t_; have m3_6 := t_; rotate_left; rw [if_neg cx8] at H; have cx8b0 : (((rd_T108 ((rd_T34 [a0] 0).f0) x3_2).f0) == 3) = false := beq_eq_false_iff_ne.mpr cx8; have cx8b1 : (((rd_T108 ((rd_T34 [a0] 0).f0) x3_2).f0) != 3) = true := bne_iff_ne.mpr cx8; have H' := a_ H; clear H; have m3_1 := t_; have m3_2 := t_; have m3_5 := t_; rotate_left
             ·rw [if_neg cx6] at H; exact absurd H y166_
             ·rw [if_neg cx5] at H; exact absurd H y166_
             all_goals (
              first
              | fail_if_success clear m3_0
              |(clear m3_0; go_wp2
                repeat (go_quiet (fail); try go_wp2)
                go_ret
                exact ⟨y6_, y15_⟩)
              first
              | fail_if_success clear m3_1
              |(clear m3_1; have p9922068 : 0 ≤ (x3_2 : Int) := of_decide_eq_true y7_; have q9922068 : x3_2 < (((rd_T34 [a0] 0).f0).length : Int) := of_decide_eq_true y7_; obtain ⟨ad9922068, A123_4, c123_4, e9922068, hx9922068_0, hx9922068_1, hx9922068_2, hx9922068_3, hx9922068_4, hl9922068_4, hi123_4⟩ := at_T108 HR115_0.out x3_2 p9922068 q9922068; obtain rfl : ad116 = ad9922068 := (by injection e9922068); have HR123_4 := a_ hi123_4; have HC123_4 := a_ hl9922068_4; clear hi123_4 hl9922068_4; replace p9922068 := eq_true p9922068; replace q9922068 := eq_true q9922068)
              first
              | fail_if_success clear m3_2
              |(clear m3_2; go_wp2
                repeat (go_quiet (fail); try go_wp2))
              first
              | fail_if_success clear m3_3
              |(clear m3_3; go_ret
                exact ⟨y6_, y15_⟩)
              first
              | fail_if_success clear m3_4
              |(clear m3_4; go_wp2_with (first | (go_at_call 112; (with_reducible refine (spec_l1Name.calls kj12 ((rd_T108 ((rd_T34 [a0] 0).f0) x3_2).f2) tx9 _ Ax9.out).mono ?_); rintro e w' ⟨rfl, ⟨nd, rfl⟩⟩; (try first | exact ⟨rfl, _, World.drewN_drewN _ _ _⟩ | exact ⟨rfl, _, Eq.trans (World.drewN_drewN _ _ _) (congrArg (World.drewN _) (Nat.add_assoc _ _ _))⟩)) | go_quiet (first | (go_at_call 112; (with_reducible refine (spec_l1Name.calls kj12 ((rd_T108 ((rd_T34 [a0] 0).f0) x3_2).f2) tx9 _ Ax9.out).mono ?_); rintro e w' ⟨rfl, ⟨nd, rfl⟩⟩; (try first | exact ⟨rfl, _, World.drewN_drewN _ _ _⟩ | exact ⟨rfl, _, Eq.trans (World.drewN_drewN _ _ _) (congrArg (World.drewN _) (Nat.add_assoc _ _ _))⟩)))))
              first
              | fail_if_success clear m3_5
              |(clear m3_5; go_roundg kj12
                case measure => have := HJ1.out; have := HK2.out; have := HJ7.out; have := HJ12.out; omega
                case rel => exact ⟨(wrap64 (x3_2 + 1)), y6_, H', ⟨by have := HJ1.out; have := HK2.out; have := HJ7.out; have := HJ12.out; omega⟩, y15_⟩)
              first
              | fail_if_success clear m3_6
              |(clear m3_6; go_ret
                exact ⟨y6_, y15_⟩))
       ·rw [if_neg cx2] at H; exact absurd H y166_
      ·rw [if_neg cx1] at H; have cx1b0 : decide (x3_2 < (((rd_T34 [a0] 0).f0).length : Int)) = false := decide_eq_false cx1; clear cx1; have H' := a_ H; clear H; have p115 : 0 ≤ (0 : Int) := y165_; have q115 : 0 < ([a0].length : Int) := y166_; obtain ⟨ad115, A115_0, c115_0, A115_1, c115_1, e115, hx115_0, hx115_1, hl115_0, hi115_0, hl115_1, hi115_1⟩ := at_T34 HR0.out 0 p115 q115; obtain rfl : adp0 = ad115 := (by injection e115); have qi115 : (0 < [a0].length) = True := eq_true y165_; (try rw [show ((0 : Int)).toNat = 0 from rfl] at hx115_0); (try rw [show 0 * 2 = 0 from rfl] at hx115_0); (try rw [Addr.add_zero'] at hx115_0); (try rw [show ((0 : Int)).toNat = 0 from rfl] at hx115_1); (try rw [show 0 * 2 = 0 from rfl] at hx115_1); (try rw [Addr.add_zero'] at hx115_1); have HR115_0 := a_ hi115_0; have HC115_0 := a_ hl115_0; clear hi115_0 hl115_0; have HR115_1 := a_ hi115_1; have HC115_1 := a_ hl115_1; clear hi115_1 hl115_1; replace p115 := eq_true p115; replace q115 := eq_true q115; go_wp2
       repeat (go_quiet (fail); try go_wp2)
       go_loopg [6] k2 (fun kq v6 w' => ∃ (x6_3 : Int), v6 = .int .i64 x6_3 ∧ Aside0 (spec_l6Fault.l1 kq a0 x6_3 = some r) ∧ Aside0 (kq ≤ k2) ∧ Drawn0 w w')
       case atStart => exact ⟨(0), y6_, H', ⟨Nat.le_refl _⟩, y15_⟩
       case round =>
        clear H'; (try clear qi1); (try clear cx0); (try clear cx1); (try clear cx1b0); (try clear qi11); (try clear hx115_0); (try clear hx115_1); (try clear p115); (try clear q115); obtain ⟨x6_3, rfl, HA, HK3, ⟨m3, rfl⟩⟩ := hrel; cases gk with
        | zero => exact absurd HA.out (by simp [spec_l6Fault.l1])
        | succ k3 =>
         have H := HA.out; clear HA; simp only [spec_l6Fault.l1] at H; by_cases cx2 : x6_3 < (((rd_T34 [a0] 0).f1).length : Int); rw [if_pos cx2] at H; have cx2b0 : decide (x6_3 < (((rd_T34 [a0] 0).f1).length : Int)) = true := decide_eq_true cx2; clear cx2; by_cases cx3 : 0 ≤ x6_3; rw [if_pos cx3] at H; have cx3b0 : decide (0 ≤ x6_3) = true := decide_eq_true cx3; clear cx3; have HC28 := a_ H; clear H; have m2_0 := t_; rotate_left
         ·rw [if_neg cx3] at H; exact absurd H y166_
         rw [if_neg cx2] at H; have cx2b0 : decide (x6_3 < (((rd_T34 [a0] 0).f1).length : Int)) = false := decide_eq_false cx2; clear cx2; obtain rfl := Option.some.inj H; have m2_1 := t_; rotate_left
         all_goals (
          have p9922068 : 0 ≤ (0 : Int) := y165_; have q9922068 : 0 < ([a0].length : Int) := y166_; obtain ⟨ad9922068, A125_0, c125_0, A125_1, c125_1, e9922068, hx9922068_0, hx9922068_1, hl9922068_0, hi125_0, hl9922068_1, hi125_1⟩ := at_T34 HR0.out 0 p9922068 q9922068; obtain rfl : adp0 = ad9922068 := (by injection e9922068); have qi125 : (0 < [a0].length) = True := eq_true y165_; (try rw [show ((0 : Int)).toNat = 0 from rfl] at hx9922068_0); (try rw [show 0 * 2 = 0 from rfl] at hx9922068_0); (try rw [Addr.add_zero'] at hx9922068_0); (try rw [show ((0 : Int)).toNat = 0 from rfl] at hx9922068_1); (try rw [show 0 * 2 = 0 from rfl] at hx9922068_1); (try rw [Addr.add_zero'] at hx9922068_1); have HR125_0 := a_ hi125_0; have HC125_0 := a_ hl9922068_0; clear hi125_0 hl9922068_0; have HR125_1 := a_ hi125_1; have HC125_1 := a_ hl9922068_1; clear hi125_1 hl9922068_1; replace p9922068 := eq_true p9922068; replace q9922068 := eq_true q9922068
          first
          | fail_if_success clear m2_0
          |(clear m2_0; have p9548309 : 0 ≤ (x6_3 : Int) := of_decide_eq_true y7_; have q9548309 : x6_3 < (((rd_T34 [a0] 0).f1).length : Int) := of_decide_eq_true y7_; obtain ⟨ad9548309, A126_2, c126_2, e9548309, hx9548309_0, hx9548309_1, hx9548309_2, hl9548309_2, hi126_2⟩ := at_T106 HR125_1.out x6_3 p9548309 q9548309; cases e9548309; have HR126_2 := a_ hi126_2; have HC126_2 := a_ hl9548309_2; clear hi126_2 hl9548309_2; replace p9548309 := eq_true p9548309; replace q9548309 := eq_true q9548309; go_upto_region 21 with (fail)
            repeat (go_quiet (fail); go_upto_region 21 with (fail))
            go_cut [129] (fun v9183820 wc => ∃ (kq : Nat) (x129_27 : Bool), v9183820 = .bool x129_27 ∧ Aside0 (spec_l6Fault.j5 kq a0 x6_3 ((rd_T34 [a0] 0).f1) x129_27 = some r) ∧ Aside0 (kq ≤ k3) ∧ Drawn0 w wc)
            case first =>
             have H := HC28.out; clear HC28; replace H := Option.bind_eq_some_iff.mp H; obtain ⟨tx4, Ay4, H⟩ := H; have Ax4 := a_ Ay4; clear Ay4; by_cases cx5 : tx4 = true; subst cx5; rw [if_pos rfl] at H; replace H := Option.bind_eq_some_iff.mp H; obtain ⟨tx6, Ay6, H⟩ := H; have Ax6 := a_ Ay6; clear Ay6; have H' := a_ H; clear H; have m3_0 := t_; have m3_1 := t_; rotate_left; replace cx5 := Bool.eq_false_iff.mpr cx5; subst cx5; rw [if_neg (show ¬ (false = true) by decide)] at H; have H' := a_ H; clear H; have m3_2 := t_; rotate_left
             all_goals (
              have p9922068 : 0 ≤ (x6_3 : Int) := of_decide_eq_true y7_; have q9922068 : x6_3 < (((rd_T34 [a0] 0).f1).length : Int) := of_decide_eq_true y7_; obtain ⟨ad9922068, A127_2, c127_2, e9922068, hx9922068_0, hx9922068_1, hx9431802_2, hl9431802_2, hi127_2⟩ := at_T106 HR125_1.out x6_3 p9922068 q9922068; obtain rfl : ad9548309 = ad9922068 := (by injection e9922068); have HR127_2 := a_ hi127_2; have HC127_2 := a_ hl9431802_2; clear hi127_2 hl9431802_2; replace p9922068 := eq_true p9922068; replace q9922068 := eq_true q9922068; go_wp2_with (first | (go_at_call 74; (with_reducible refine (spec_l1In.calls ((rd_T106 ((rd_T34 [a0] 0).f1) x6_3).f0) 0 (wrap64 ((((rd_T34 [a0] 0).f0).length : Int) - 1)) _ _ Ax4.out).mono ?_); rintro e w' ⟨rfl, ⟨nd, rfl⟩⟩; (try first | exact ⟨rfl, _, World.drewN_drewN _ _ _⟩ | exact ⟨rfl, _, Eq.trans (World.drewN_drewN _ _ _) (congrArg (World.drewN _) (Nat.add_assoc _ _ _))⟩)) | (have mkq_ := m3_0; clear mkq_; go_at_call 74; (with_reducible refine (spec_l1In.calls ((rd_T106 ((rd_T34 [a0] 0).f1) x6_3).f1) 0 (wrap64 ((((rd_T34 [a0] 0).f0).length : Int) - 1)) tx6 _ Ax6.out).mono ?_); rintro e w' ⟨rfl, ⟨nd, rfl⟩⟩; (try first | exact ⟨rfl, _, World.drewN_drewN _ _ _⟩ | exact ⟨rfl, _, Eq.trans (World.drewN_drewN _ _ _) (congrArg (World.drewN _) (Nat.add_assoc _ _ _))⟩)) | go_quiet (first | (go_at_call 74; (with_reducible refine (spec_l1In.calls ((rd_T106 ((rd_T34 [a0] 0).f1) x6_3).f0) 0 (wrap64 ((((rd_T34 [a0] 0).f0).length : Int) - 1)) _ _ Ax4.out).mono ?_); rintro e w' ⟨rfl, ⟨nd, rfl⟩⟩; (try first | exact ⟨rfl, _, World.drewN_drewN _ _ _⟩ | exact ⟨rfl, _, Eq.trans (World.drewN_drewN _ _ _) (congrArg (World.drewN _) (Nat.add_assoc _ _ _))⟩)) | (go_at_call 74; (with_reducible refine (spec_l1In.calls ((rd_T106 ((rd_T34 [a0] 0).f1) x6_3).f1) 0 (wrap64 ((((rd_T34 [a0] 0).f0).length : Int) - 1)) tx6 _ Ax6.out).mono ?_); rintro e w' ⟨rfl, ⟨nd, rfl⟩⟩; (try first | exact ⟨rfl, _, World.drewN_drewN _ _ _⟩ | exact ⟨rfl, _, Eq.trans (World.drewN_drewN _ _ _) (congrArg (World.drewN _) (Nat.add_assoc _ _ _))⟩))))
              go_meet
              first
              | fail_if_success clear m3_1
              |(clear m3_1
                case rel => exact ⟨_, (!tx6), y6_, H', ⟨by have := HJ1.out; have := HK2.out; have := HK3.out; first | omega | exact Nat.le_refl _⟩, y15_⟩)
              first
              | fail_if_success clear m3_2
              |(clear m3_2
                case rel => exact ⟨_, (true), y6_, H', ⟨by have := HJ1.out; have := HK2.out; have := HK3.out; first | omega | exact Nat.le_refl _⟩, y15_⟩))
            case rest =>
             clear HC28; (try clear qi1); (try clear cx0); (try clear cx1); (try clear cx1b0); (try clear qi11); (try clear qi12); (try clear cx2); (try clear cx2b0); (try clear cx3); (try clear cx3b0); (try clear hx115_0); (try clear hx115_1); (try clear hx9922068_0); (try clear hx9922068_1); (try clear hx9548309_0); (try clear hx9548309_1); (try clear hx9548309_2); (try clear p115); (try clear p9922068); (try clear p9548309); (try clear q115); (try clear q9922068); (try clear q9548309); obtain ⟨kq, x129_27, rfl, HA, HJ27, ⟨mc27, rfl⟩⟩ := hcut; cases kq with
             | zero => exact absurd HA.out (by simp [spec_l6Fault.j5])
             | succ kj27 =>
              have H := HA.out; clear HA; simp only [spec_l6Fault.j5] at H; by_cases cx4 : x129_27 = true; subst cx4; rw [if_pos rfl] at H; obtain rfl := Option.some.inj H; have m3_0 := t_; rotate_left; replace cx4 := Bool.eq_false_iff.mpr cx4; subst cx4; rw [if_neg (show ¬ (false = true) by decide)] at H; by_cases cx5 : 0 ≤ x6_3; rw [if_pos cx5] at H; have cx5b0 : decide (0 ≤ x6_3) = true := decide_eq_true cx5; clear cx5; by_cases cx6 : x6_3 < (((rd_T34 [a0] 0).f1).length : Int); rw [if_pos cx6] at H; have cx6b0 : decide (x6_3 < (((rd_T34 [a0] 0).f1).length : Int)) = true := decide_eq_true cx6; clear cx6; by_cases cx7 : (((rd_T106 ((rd_T34 [a0] 0).f1) x6_3).f2).length : Int) > 16; rw [if_pos cx7] at H; have cx7b0 : decide (16 < (((rd_T106 ((rd_T34 [a0] 0).f1) x6_3).f2).length : Int)) = true := decide_eq_true cx7; have cx7b1 : decide (16 < ((rd_T106 ((rd_T34 [a0] 0).f1) x6_3).f2).length) = true := decide_eq_true y165_; clear cx7; obtain rfl := Option.some.inj H; have m3_1 := t_; have m3_2 := t_; have m3_3 := t_; rotate_left; rw [if_neg cx7] at H; have cx7b0 : decide (16 < (((rd_T106 ((rd_T34 [a0] 0).f1) x6_3).f2).length : Int)) = false := decide_eq_false cx7; have cx7b1 : decide (16 < ((rd_T106 ((rd_T34 [a0] 0).f1) x6_3).f2).length) = false := decide_eq_false y165_; clear cx7; by_cases cx8 : x6_3 > 0; rw [if_pos cx8] at H; have cx8b0 : decide (0 < x6_3) = true := decide_eq_true cx8; clear cx8; obtain ⟨ji37, hji37⟩ : ∃ j_ : Int, (wrap64 (x6_3 - 1)) = j_ := ⟨_, rfl⟩; replace H : (if 0 ≤ (ji37) then (if (ji37) < (((rd_T34 [a0] 0).f1).length : Int) then (if ((rd_T106 ((rd_T34 [a0] 0).f1) x6_3).f0) < ((rd_T106 ((rd_T34 [a0] 0).f1) (ji37)).f0) then (some 1) else (spec_l6Fault.l1 kj27 a0 (wrap64 (x6_3 + 1)))) else (none)) else (none)) = some r := by first | (rw [hji37] at H; exact H) | (simp only [hji37] at H ⊢; exact H)
              have hji37w : (IntKind.i64.wrap (x6_3 - 1)) = ji37 := (i64_w _).trans hji37; by_cases cx9 : 0 ≤ (ji37); rw [if_pos cx9] at H; have cx9b0 : decide (0 ≤ (ji37)) = true := decide_eq_true cx9; clear cx9; by_cases cx10 : (ji37) < (((rd_T34 [a0] 0).f1).length : Int); rw [if_pos cx10] at H; have cx10b0 : decide ((ji37) < (((rd_T34 [a0] 0).f1).length : Int)) = true := decide_eq_true cx10; clear cx10; by_cases cx11 : ((rd_T106 ((rd_T34 [a0] 0).f1) x6_3).f0) < ((rd_T106 ((rd_T34 [a0] 0).f1) (ji37)).f0); rw [if_pos cx11] at H; have cx11b0 : decide (((rd_T106 ((rd_T34 [a0] 0).f1) x6_3).f0) < ((rd_T106 ((rd_T34 [a0] 0).f1) (ji37)).f0)) = true := decide_eq_true cx11; clear cx11; obtain rfl := Option.some.inj H; have m3_1 := t_; have m3_4 := t_; have m3_5 := t_; rotate_left; rw [if_neg cx11] at H; have cx11b0 : decide (((rd_T106 ((rd_T34 [a0] 0).f1) x6_3).f0) < ((rd_T106 ((rd_T34 [a0] 0).f1) (ji37)).f0)) = false := decide_eq_false cx11; clear cx11; have H' := a_ H; clear H; have m3_1 := t_; have m3_4 := t_; have m3_6 := t_; rotate_left
              ·rw [if_neg cx10] at H; exact absurd H y166_
              ·rw [if_neg cx9] at H; exact absurd H y166_
              rw [if_neg cx8] at H; have cx8b0 : decide (0 < x6_3) = false := decide_eq_false cx8; clear cx8; have H' := a_ H; clear H; have m3_1 := t_; have m3_2 := t_; have m3_6 := t_; rotate_left
              ·rw [if_neg cx6] at H; exact absurd H y166_
              ·rw [if_neg cx5] at H; exact absurd H y166_
              all_goals (
               first
               | fail_if_success clear m3_0
               |(clear m3_0; go_wp2
                 repeat (go_quiet (fail); try go_wp2)
                 go_ret
                 exact ⟨y6_, y15_⟩)
               first
               | fail_if_success clear m3_1
               |(clear m3_1; have p9922068 : 0 ≤ (x6_3 : Int) := of_decide_eq_true y7_; have q9922068 : x6_3 < (((rd_T34 [a0] 0).f1).length : Int) := of_decide_eq_true y7_; obtain ⟨ad9922068, A130_2, c130_2, e9922068, hx9922068_0, hx9922068_1, hx9431802_2, hl9431802_2, hi130_2⟩ := at_T106 HR125_1.out x6_3 p9922068 q9922068; obtain rfl : ad9548309 = ad9922068 := (by injection e9922068); have HR130_2 := a_ hi130_2; have HC130_2 := a_ hl9431802_2; clear hi130_2 hl9431802_2; replace p9922068 := eq_true p9922068; replace q9922068 := eq_true q9922068)
               first
               | fail_if_success clear m3_2
               |(clear m3_2; go_wp2
                 repeat (go_quiet (fail); try go_wp2))
               first
               | fail_if_success clear m3_3
               |(clear m3_3; go_ret
                 exact ⟨y6_, y15_⟩)
               first
               | fail_if_success clear m3_4
               |(clear m3_4; have p9058667 : 0 ≤ (0 : Int) := y165_; have q9058667 : 0 < ([a0].length : Int) := y166_; obtain ⟨ad9058667, A131_0, c131_0, A131_1, c131_1, e9058667, hx9058667_0, hx9058667_1, hl9058667_0, hi131_0, hl9058667_1, hi131_1⟩ := at_T34 HR0.out 0 p9058667 q9058667; obtain rfl : adp0 = ad9058667 := (by injection e9058667); have qi131 : (0 < [a0].length) = True := eq_true y165_; (try rw [show ((0 : Int)).toNat = 0 from rfl] at hx9058667_0); (try rw [show 0 * 2 = 0 from rfl] at hx9058667_0); (try rw [Addr.add_zero'] at hx9058667_0); (try rw [show ((0 : Int)).toNat = 0 from rfl] at hx9058667_1); (try rw [show 0 * 2 = 0 from rfl] at hx9058667_1); (try rw [Addr.add_zero'] at hx9058667_1); have HR131_0 := a_ hi131_0; have HC131_0 := a_ hl9058667_0; clear hi131_0 hl9058667_0; have HR131_1 := a_ hi131_1; have HC131_1 := a_ hl9058667_1; clear hi131_1 hl9058667_1; replace p9058667 := eq_true p9058667; replace q9058667 := eq_true q9058667; have p9450402 : 0 ≤ ((ji37) : Int) := of_decide_eq_true y7_; have q9450402 : (ji37) < (((rd_T34 [a0] 0).f1).length : Int) := of_decide_eq_true y7_; obtain ⟨ad9450402, A132_2, c132_2, e9450402, hx9450402_0, hx9450402_1, hx9450402_2, hl9450402_2, hi132_2⟩ := at_T106 HR131_1.out (ji37) p9450402 q9450402; cases e9450402; have HR132_2 := a_ hi132_2; have HC132_2 := a_ hl9450402_2; clear hi132_2 hl9450402_2; replace p9450402 := eq_true p9450402; replace q9450402 := eq_true q9450402; go_wp2
                 repeat (go_quiet (fail); try go_wp2))
               first
               | fail_if_success clear m3_5
               |(clear m3_5; go_ret
                 exact ⟨by first | rfl | (simp; done) | (simp only [← hji37] <;> (first | rfl | simp)) | (simp [*]; done), y15_⟩)
               first
               | fail_if_success clear m3_6
               |(clear m3_6; go_roundg kj27
                 case measure => have := HJ1.out; have := HK2.out; have := HK3.out; have := HJ27.out; omega
                 case rel => exact ⟨(wrap64 (x6_3 + 1)), y6_, H', ⟨by have := HJ1.out; have := HK2.out; have := HK3.out; have := HJ27.out; omega⟩, y15_⟩)))
          first
          | fail_if_success clear m2_1
          |(clear m2_1; go_wp2
            repeat (go_quiet (fail); try go_wp2)
            go_ret
            exact ⟨y6_, y15_⟩))

/-! ### spec_l6Asked: function 38 -/
def spec_l6Asked.f (k : Nat) (a0 : S34) (a1 : Int) : Option (Int) := (spec_l6Fault.f k a0).bind fun t133 => (if t133 = 0 then ((spec_l1In.f a1 0 (wrap64 ((((rd_T34 [a0] 0).f0).length : Int) - 1))).bind fun t135 => (if t135 = true then (some 0) else (some 3))) else (some t133))
theorem spec_l6Asked.mono : ∀ a0 a1 k, LeO (spec_l6Asked.f k a0 a1) (spec_l6Asked.f (k + 1) a0 a1) := by
  intro a0 a1 k
  unfold spec_l6Asked.f
  repeat' (with_reducible first | exact spec_l6Fault.mono _ _ | exact LeO.refl _ | exact LeO.none _ | refine LeO.ite ?_ ?_ | refine LeO.bind ?_ (fun _ => ?_))
set_option maxHeartbeats 8000000 in
set_option maxRecDepth 100000 in
theorem spec_l6Asked.calls (k : Nat) (adp0 : Addr) (a0 : S34) (a1 : Int) (r : Int) (w : World) (hr0 : Kd.C k34 w (some adp0) 1 [a0]) (h : spec_l6Asked.f k a0 a1 = some r) :
    Calls Try.prog 38 #[.pointer (some adp0), .int .i64 a1] w fun e w' => e = .returned (.int .i64 r) ∧ Drawn0 w w' := by
 have HR0 := a_ hr0; clear hr0; have H : ((spec_l6Fault.f k a0).bind fun t133 => (if t133 = 0 then ((spec_l1In.f a1 0 (wrap64 ((((rd_T34 [a0] 0).f0).length : Int) - 1))).bind fun t135 => (if t135 = true then (some 0) else (some 3))) else (some t133))) = some r := h; clear h; replace H := Option.bind_eq_some_iff.mp H; obtain ⟨tx0, Ay0, H⟩ := H; have Ax0 := a_ Ay0; clear Ay0; by_cases cx1 : tx0 = 0; rw [if_pos cx1] at H; have cx1b0 : (tx0 == 0) = true := beq_iff_eq.mpr cx1; have cx1b1 : (tx0 != 0) = false := bne_eq_false_iff_eq.mpr cx1; clear cx1; replace H := Option.bind_eq_some_iff.mp H; obtain ⟨tx2, Ay2, H⟩ := H; have Ax2 := a_ Ay2; clear Ay2; by_cases cx3 : tx2 = true; subst cx3; rw [if_pos rfl] at H; obtain rfl := Option.some.inj H; have m0_0 := t_; rotate_left; replace cx3 := Bool.eq_false_iff.mpr cx3; subst cx3; rw [if_neg (show ¬ (false = true) by decide)] at H; obtain rfl := Option.some.inj H; have m0_0 := t_; rotate_left; rw [if_neg cx1] at H; have cx1b0 : (tx0 == 0) = false := beq_eq_false_iff_ne.mpr cx1; have cx1b1 : (tx0 != 0) = true := bne_iff_ne.mpr cx1; obtain rfl := Option.some.inj H; have m0_1 := t_; rotate_left
 all_goals (
  go_enter Try.func38, Try.ntmps38
  go_wp2_with (first | (have mkq_ := m0_0; clear mkq_; (with_reducible refine gate_callee (f := 81) rfl ?_); refine gc_ 81 7 Try.func81 #[.pointer (some adp0)] ?_; (with_reducible refine (spec_l6Fault.calls k _ a0 tx0 _ ?side1 Ax0.out).mono ?_); (case side1 => repeat (first | exact HR0.out | (with_reducible refine Kd.C_alloc ?_ _) | (with_reducible refine Kd.C_drewN ?_ _) | (with_reducible refine Kd.C_drew ?_))); rintro e w' ⟨rfl, ⟨nd, rfl⟩⟩; refine ⟨_, rfl, ?_⟩; have p9053903 : 0 ≤ (0 : Int) := y165_; have q9053903 : 0 < ([a0].length : Int) := y166_; obtain ⟨ad9053903, A134_0, c134_0, A134_1, c134_1, e9053903, hx9053903_0, hx9053903_1, hl9053903_0, hi134_0, hl9053903_1, hi134_1⟩ := at_T34 HR0.out 0 p9053903 q9053903; obtain rfl : adp0 = ad9053903 := (by injection e9053903); have qi134 : (0 < [a0].length) = True := eq_true y165_; (try rw [show ((0 : Int)).toNat = 0 from rfl] at hx9053903_0); (try rw [show 0 * 2 = 0 from rfl] at hx9053903_0); (try rw [Addr.add_zero'] at hx9053903_0); (try rw [show ((0 : Int)).toNat = 0 from rfl] at hx9053903_1); (try rw [show 0 * 2 = 0 from rfl] at hx9053903_1); (try rw [Addr.add_zero'] at hx9053903_1); have HR134_0 := a_ hi134_0; have HC134_0 := a_ hl9053903_0; clear hi134_0 hl9053903_0; have HR134_1 := a_ hi134_1; have HC134_1 := a_ hl9053903_1; clear hi134_1 hl9053903_1; replace p9053903 := eq_true p9053903; replace q9053903 := eq_true q9053903) | ((with_reducible refine gate_callee (f := 74) rfl ?_); refine gc_ 74 18 Try.func74 #[.int .i64 a1, .int .i64 0, .int .i64 (wrap64 ((((rd_T34 [a0] 0).f0).length : Int) - 1))] ?_; (with_reducible refine (spec_l1In.calls a1 0 (wrap64 ((((rd_T34 [a0] 0).f0).length : Int) - 1)) _ _ Ax2.out).mono ?_); rintro e w' ⟨rfl, ⟨nd, rfl⟩⟩; refine ⟨_, rfl, ?_⟩) | (have mkq_ := m0_1; clear mkq_; (with_reducible refine gate_callee (f := 81) rfl ?_); refine gc_ 81 7 Try.func81 #[.pointer (some adp0)] ?_; (with_reducible refine (spec_l6Fault.calls k _ a0 tx0 _ ?side1 Ax0.out).mono ?_); (case side1 => repeat (first | exact HR0.out | (with_reducible refine Kd.C_alloc ?_ _) | (with_reducible refine Kd.C_drewN ?_ _) | (with_reducible refine Kd.C_drew ?_))); rintro e w' ⟨rfl, ⟨nd, rfl⟩⟩; refine ⟨_, rfl, ?_⟩))
  go_ret
  exact ⟨y6_, y15_⟩)

/-! ### laws_toNode: function 122 -/
def laws_toNode.f (a0_0 : Int) (a0_1 : Int) (a0_2 : Int) (a0_3 : Int) : Option (Int × Int × Int × Int) := some (a0_0, a0_1, a0_2, a0_3)
set_option maxHeartbeats 8000000 in
set_option maxRecDepth 100000 in
theorem laws_toNode.calls (a0_0 : Int) (a0_1 : Int) (a0_2 : Int) (a0_3 : Int) (r1 : Int) (r2 : Int) (r3 : Int) (r4 : Int) (w : World) (h : laws_toNode.f a0_0 a0_1 a0_2 a0_3 = some (r1, r2, r3, r4)) :
    Calls Try.prog 122 #[.agg #[.int .i64 a0_0, .int .i64 a0_1, .int .i64 a0_2, .int .i64 a0_3]] w fun e w' => e = .returned (.agg #[.int .i64 r1, .int .i64 r2, .int .i64 r3, .int .i64 r4]) ∧ Below w.heap.size w w' := by
 have hu149 := Try.underlying149; have hu139 := Try.underlying139; have HB := a_ (Below.refl w.heap.size w); have H : (some (a0_0, a0_1, a0_2, a0_3)) = some (r1, r2, r3, r4) := h; clear h; simp only [Option.some.injEq, Prod.mk.injEq] at H; obtain ⟨rfl, rfl, rfl, rfl⟩ := H; go_enter Try.func122, Try.ntmps122
 go_wp2_with (first | ((with_reducible refine gate_dst (N := 1) rfl ?_); refine box_event zr_ (N := 1) zr_ (cs := #[.int .i64 a0_0, .int .i64 a0_1, .int .i64 a0_2, .int .i64 a0_3]) (t := 149) zs_ ?_; intro gb150 hg w2 hbox hb; have n0_ := a_ (below_step y0_ hb); have n1_ := a_ (hbox); have n2_ := a_ ((by rw [hg]; exact (below_size y0_) : w.heap.size ≤ gb150)); have n3_ := a_ ((by rw [hg]; exact (below_size y0_) : w.heap.size ≤ gb150)); clear HB; have HB := n0_; have BK150 := n1_; have GW150 := n2_; have GE150 := n3_; clear n0_ n1_ n2_ n3_; clear hb hbox hg) | ((with_reducible refine gate_dst (N := 2) rfl ?_); refine box_event zr_ (N := 2) zr_ (cs := #[.int .i64 0, .int .i64 0, .int .i64 0, .int .i64 0]) (t := 139) zs_ ?_; intro gb151 hg w3 hbox hb; have n0_ := a_ (blk_below (g := gb150) (o := .cells #[.int .i64 a0_0, .int .i64 a0_1, .int .i64 a0_2, .int .i64 a0_3] 149 (0, 0)) y77_ hb); have n1_ := a_ (below_step y157_ hb); have n2_ := a_ (hbox); have n3_ := a_ ((by rw [hg]; exact (below_size y157_) : w.heap.size ≤ gb151)); have n4_ := a_ ((by rw [hg]; exact (below_size y157_) : w.heap.size ≤ gb151)); have n5_ := a_ ((by rw [hg]; exact Nat.ne_of_lt (blk_lt (g := gb150) (o := .cells #[.int .i64 a0_0, .int .i64 a0_1, .int .i64 a0_2, .int .i64 a0_3] 149 (0, 0)) y77_) : gb150 ≠ gb151)); have n6_ := a_ ((by rw [hg]; exact Nat.ne_of_gt (blk_lt (g := gb150) (o := .cells #[.int .i64 a0_0, .int .i64 a0_1, .int .i64 a0_2, .int .i64 a0_3] 149 (0, 0)) y77_) : gb151 ≠ gb150)); clear BK150; clear HB; have BK150 := n0_; have HB := n1_; have BK151 := n2_; have GW151 := n3_; have GE151 := n4_; have NB150_151 := n5_; have NB151_150 := n6_; clear n0_ n1_ n2_ n3_ n4_ n5_ n6_; clear hb hbox hg) | ((with_reducible refine gate_dst (N := 3) rfl ?_); refine box_event zr_ (N := 3) zr_ (cs := #[.int .i64 0, .int .i64 0, .int .i64 0, .int .i64 0]) (t := 139) zs_ ?_; intro gb152 hg w4 hbox hb; have n0_ := a_ (blk_below (g := gb150) (o := .cells #[.int .i64 a0_0, .int .i64 a0_1, .int .i64 a0_2, .int .i64 a0_3] 149 (0, 0)) y77_ hb); have n1_ := a_ (blk_below (g := gb151) (o := .cells #[.int .i64 0, .int .i64 0, .int .i64 0, .int .i64 0] 139 (0, 0)) y173_ hb); have n2_ := a_ (below_step y122_ hb); have n3_ := a_ (hbox); have n4_ := a_ ((by rw [hg]; exact (below_size y122_) : w.heap.size ≤ gb152)); have n5_ := a_ ((by rw [hg]; exact (below_size y122_) : w.heap.size ≤ gb152)); have n6_ := a_ ((by rw [hg]; exact Nat.ne_of_lt (blk_lt (g := gb150) (o := .cells #[.int .i64 a0_0, .int .i64 a0_1, .int .i64 a0_2, .int .i64 a0_3] 149 (0, 0)) y77_) : gb150 ≠ gb152)); have n7_ := a_ ((by rw [hg]; exact Nat.ne_of_gt (blk_lt (g := gb150) (o := .cells #[.int .i64 a0_0, .int .i64 a0_1, .int .i64 a0_2, .int .i64 a0_3] 149 (0, 0)) y77_) : gb152 ≠ gb150)); have n8_ := a_ ((by rw [hg]; exact Nat.ne_of_lt (blk_lt (g := gb151) (o := .cells #[.int .i64 0, .int .i64 0, .int .i64 0, .int .i64 0] 139 (0, 0)) y173_) : gb151 ≠ gb152)); have n9_ := a_ ((by rw [hg]; exact Nat.ne_of_gt (blk_lt (g := gb151) (o := .cells #[.int .i64 0, .int .i64 0, .int .i64 0, .int .i64 0] 139 (0, 0)) y173_) : gb152 ≠ gb151)); clear BK150; clear BK151; clear HB; have BK150 := n0_; have BK151 := n1_; have HB := n2_; have BK152 := n3_; have GW152 := n4_; have GE152 := n5_; have NB150_152 := n6_; have NB152_150 := n7_; have NB151_152 := n8_; have NB152_151 := n9_; clear n0_ n1_ n2_ n3_ n4_ n5_ n6_ n7_ n8_ n9_; clear hb hbox hg; have hnb5 := NB150_151.out; have hnc5 := NB151_150.out; have hnb6 := NB150_152.out; have hnc6 := NB152_150.out; have hcz7_0 : w4.cell? ⟨gb150, 0, none⟩ = some (.int .i64 a0_0) := (blk_cell BK150.out 0).trans rfl; have hcz7_1 : w4.cell? ⟨gb150, 1, none⟩ = some (.int .i64 a0_1) := (blk_cell BK150.out 1).trans rfl; have hcz7_2 : w4.cell? ⟨gb150, 2, none⟩ = some (.int .i64 a0_2) := (blk_cell BK150.out 2).trans rfl; have hcz7_3 : w4.cell? ⟨gb150, 3, none⟩ = some (.int .i64 a0_3) := (blk_cell BK150.out 3).trans rfl; have hfz7_0 := blk_frozen BK150.out 0; have hfz7_1 := blk_frozen BK150.out 1; have hfz7_2 := blk_frozen BK150.out 2; have hfz7_3 := blk_frozen BK150.out 3; have hnb8 := NB152_151.out; have hnc8 := NB151_152.out; have hcz9_0 : w4.cell? ⟨gb152, 0, none⟩ = some (.int .i64 0) := (blk_cell BK152.out 0).trans rfl; have hcz9_1 : w4.cell? ⟨gb152, 1, none⟩ = some (.int .i64 0) := (blk_cell BK152.out 1).trans rfl; have hcz9_2 : w4.cell? ⟨gb152, 2, none⟩ = some (.int .i64 0) := (blk_cell BK152.out 2).trans rfl; have hcz9_3 : w4.cell? ⟨gb152, 3, none⟩ = some (.int .i64 0) := (blk_cell BK152.out 3).trans rfl; have hfz9_0 := blk_frozen BK152.out 0; have hfz9_1 := blk_frozen BK152.out 1; have hfz9_2 := blk_frozen BK152.out 2; have hfz9_3 := blk_frozen BK152.out 3; have hcz10_0 : w4.cell? ⟨gb151, 0, none⟩ = some (.int .i64 0) := (blk_cell BK151.out 0).trans rfl; have hcz10_1 : w4.cell? ⟨gb151, 1, none⟩ = some (.int .i64 0) := (blk_cell BK151.out 1).trans rfl; have hcz10_2 : w4.cell? ⟨gb151, 2, none⟩ = some (.int .i64 0) := (blk_cell BK151.out 2).trans rfl; have hcz10_3 : w4.cell? ⟨gb151, 3, none⟩ = some (.int .i64 0) := (blk_cell BK151.out 3).trans rfl; have hfz10_0 := blk_frozen BK151.out 0; have hfz10_1 := blk_frozen BK151.out 1; have hfz10_2 := blk_frozen BK151.out 2; have hfz10_3 := blk_frozen BK151.out 3))
 refine bodyPost_ret (results_cell_row rfl _ _ gb151 139 #[.int .i64 a0_0, .int .i64 a0_1, .int .i64 a0_2, .int .i64 a0_3] (0, 0) _ rfl (by (with_reducible repeat (first | refine blk_drewN ?_ _ | refine blk_drew ?_ | refine blk_alloc ?_ _)); refine blk_put (cs := #[.int .i64 a0_0, .int .i64 a0_1, .int .i64 a0_2, .int .i64 0]) ?_ 3 _ rfl; (with_reducible repeat (first | refine blk_drewN ?_ _ | refine blk_drew ?_ | refine blk_alloc ?_ _)); refine blk_put (cs := #[.int .i64 a0_0, .int .i64 a0_1, .int .i64 0, .int .i64 0]) ?_ 2 _ rfl; (with_reducible repeat (first | refine blk_drewN ?_ _ | refine blk_drew ?_ | refine blk_alloc ?_ _)); refine blk_put (cs := #[.int .i64 a0_0, .int .i64 0, .int .i64 0, .int .i64 0]) ?_ 1 _ rfl; (with_reducible repeat (first | refine blk_drewN ?_ _ | refine blk_drew ?_ | refine blk_alloc ?_ _)); refine blk_put (cs := #[.int .i64 0, .int .i64 0, .int .i64 0, .int .i64 0]) ?_ 0 _ rfl; (with_reducible repeat (first | refine blk_drewN ?_ _ | refine blk_drew ?_ | refine blk_alloc ?_ _)); refine blk_far ?_ NB151_152.out _; (with_reducible repeat (first | refine blk_drewN ?_ _ | refine blk_drew ?_ | refine blk_alloc ?_ _)); refine blk_far ?_ NB151_152.out _; (with_reducible repeat (first | refine blk_drewN ?_ _ | refine blk_drew ?_ | refine blk_alloc ?_ _)); refine blk_far ?_ NB151_152.out _; (with_reducible repeat (first | refine blk_drewN ?_ _ | refine blk_drew ?_ | refine blk_alloc ?_ _)); refine blk_far ?_ NB151_152.out _; (with_reducible repeat (first | refine blk_drewN ?_ _ | refine blk_drew ?_ | refine blk_alloc ?_ _)); exact BK151.out) Try.underlying139 rfl y58_) rfl ?_; exact ⟨y5_, by repeat (first | (with_reducible first | exact HB.out | apply below_alloc | apply pw_below_drewN | apply below_drew1 | refine below_set ?_ GE150.out | refine below_set ?_ GE151.out | refine below_set ?_ GE152.out) | exact HB.out)⟩

end Go.Proofs.Ytcpcenhpmcfmjaa.F
