-- Written by a program of this session's own (xp.py) for this seat.
import Derived.Test.YtbjakfnfjndccaaTZ
import Derived.Test.YtbjakfnfjndccaaT0
import Derived.Test.YtbjakfnfjndccaaT1
namespace Go.Proofs.Ytbjakfnfjndccaa.T
open Go.RowKit Go.Proofs.YtbjakfnfjndccaaW.PrintWords Go.Proofs.YtbjakfnfjndccaaW.PrintLast Go.Proofs.YtbjakfnfjndccaaW.PrintMore
attribute [local go_sem] Instr.field asAgg
attribute [local go_sem] max2_int min2_int max_two min_two max_three min_three max_four min_four   -- for this text's walks alone
set_option linter.unusedVariables false
set_option linter.unusedSimpArgs false

/-! ### spec_l2Fault: function 21 -/
mutual
def spec_l2Fault.j0 : Nat → List (S48) → Bool → Option (Int)
  | 0, _, _ => none
  | k + 1, x0, x14 => if x14 = true then (some 2) else (spec_l2Fault.l0 k x0 0)
def spec_l2Fault.l0 : Nat → List (S48) → Int → Option (Int)
  | 0, _, _ => none
  | k + 1, x0, x3 => if x3 < (x0.length : Int) then (if 0 ≤ x3 then ((spec_l1Name.f k ((rd_T48 x0 x3).f0)).bind fun t125 => (if t125 = 0 then (if x3 = 0 then (if ((rd_T48 x0 x3).f1) = (-1) then (if x3 > 0 then ((spec_l1In.f ((rd_T48 x0 x3).f1) 0 (wrap64 (x3 - 1))).bind fun t126 => (spec_l2Fault.j2 k x0 x3 (!t126))) else (spec_l2Fault.j2 k x0 x3 false)) else (spec_l2Fault.j2 k x0 x3 true)) else (if x3 > 0 then ((spec_l1In.f ((rd_T48 x0 x3).f1) 0 (wrap64 (x3 - 1))).bind fun t127 => (spec_l2Fault.j2 k x0 x3 (!t127))) else (spec_l2Fault.j2 k x0 x3 false))) else (some t125))) else (none)) else (some 0)
def spec_l2Fault.j2 : Nat → List (S48) → Int → Bool → Option (Int)
  | 0, _, _, _ => none
  | k + 1, x0, x3, x54 => if x54 = true then (some 3) else (if x3 > 0 then ((spec_l2Line.f k x0 x3).bind fun t128 => (spec_l2Fault.j3 k x0 x3 (!t128))) else (spec_l2Fault.j3 k x0 x3 false))
def spec_l2Fault.j3 : Nat → List (S48) → Int → Bool → Option (Int)
  | 0, _, _, _ => none
  | k + 1, x0, x3, x62 => if x62 = true then (some 1) else ((spec_l2Deep.f k x0 x3).bind fun t129 => (if t129 > 8 then (spec_l2Fault.j4 k x0 x3 true) else (if 0 ≤ x3 then (if x3 < (x0.length : Int) then (spec_l2Fault.j4 k x0 x3 (decide ((((rd_T48 x0 x3).f2).length : Int) > 6))) else (none)) else (none))))
def spec_l2Fault.j4 : Nat → List (S48) → Int → Bool → Option (Int)
  | 0, _, _, _ => none
  | k + 1, x0, x3, x74 => if x74 = true then (some 2) else (if 0 ≤ x3 then (if x3 < (x0.length : Int) then ((spec_l2Attrs.f k ((rd_T48 x0 x3).f2)).bind fun t132 => (if t132 = 0 then (spec_l2Fault.l0 k x0 (wrap64 (x3 + 1))) else (some t132))) else (none)) else (none))
end
def spec_l2Fault.f (k : Nat) (l0 : List (S48)) : Option (Int) := if (l0.length : Int) < 1 then (spec_l2Fault.j0 k l0 true) else (spec_l2Fault.j0 k l0 (decide ((l0.length : Int) > 40)))
theorem spec_l2Fault.mono_l : ∀ k, (∀ y0 y1, LeO (spec_l2Fault.j0 k y0 y1) (spec_l2Fault.j0 (k + 1) y0 y1)) ∧ (∀ y0 y1, LeO (spec_l2Fault.l0 k y0 y1) (spec_l2Fault.l0 (k + 1) y0 y1)) ∧ (∀ y0 y1 y2, LeO (spec_l2Fault.j2 k y0 y1 y2) (spec_l2Fault.j2 (k + 1) y0 y1 y2)) ∧ (∀ y0 y1 y2, LeO (spec_l2Fault.j3 k y0 y1 y2) (spec_l2Fault.j3 (k + 1) y0 y1 y2)) ∧ (∀ y0 y1 y2, LeO (spec_l2Fault.j4 k y0 y1 y2) (spec_l2Fault.j4 (k + 1) y0 y1 y2))
  | 0 => ⟨fun _ _ r h => by simp [spec_l2Fault.j0] at h, fun _ _ r h => by simp [spec_l2Fault.l0] at h, fun _ _ _ r h => by simp [spec_l2Fault.j2] at h, fun _ _ _ r h => by simp [spec_l2Fault.j3] at h, fun _ _ _ r h => by simp [spec_l2Fault.j4] at h⟩
  | k + 1 => by
    obtain ⟨ih0, ih1, ih2, ih3, ih4⟩ := spec_l2Fault.mono_l k
    refine ⟨?_, ?_, ?_, ?_, ?_⟩
    · intro y0 y1
      unfold spec_l2Fault.j0
      repeat' (with_reducible first | exact ih0 _ _ | exact ih1 _ _ | exact ih2 _ _ _ | exact ih3 _ _ _ | exact ih4 _ _ _ | exact spec_l1Name.mono _ _ | exact spec_l2Attrs.mono _ _ | exact spec_l2Deep.mono _ _ _ | exact spec_l2Line.mono _ _ _ | exact LeO.refl _ | exact LeO.none _ | refine LeO.ite ?_ ?_ | refine LeO.bind ?_ (fun _ => ?_))
    · intro y0 y1
      unfold spec_l2Fault.l0
      repeat' (with_reducible first | exact ih0 _ _ | exact ih1 _ _ | exact ih2 _ _ _ | exact ih3 _ _ _ | exact ih4 _ _ _ | exact spec_l1Name.mono _ _ | exact spec_l2Attrs.mono _ _ | exact spec_l2Deep.mono _ _ _ | exact spec_l2Line.mono _ _ _ | exact LeO.refl _ | exact LeO.none _ | refine LeO.ite ?_ ?_ | refine LeO.bind ?_ (fun _ => ?_))
    · intro y0 y1 y2
      unfold spec_l2Fault.j2
      repeat' (with_reducible first | exact ih0 _ _ | exact ih1 _ _ | exact ih2 _ _ _ | exact ih3 _ _ _ | exact ih4 _ _ _ | exact spec_l1Name.mono _ _ | exact spec_l2Attrs.mono _ _ | exact spec_l2Deep.mono _ _ _ | exact spec_l2Line.mono _ _ _ | exact LeO.refl _ | exact LeO.none _ | refine LeO.ite ?_ ?_ | refine LeO.bind ?_ (fun _ => ?_))
    · intro y0 y1 y2
      unfold spec_l2Fault.j3
      repeat' (with_reducible first | exact ih0 _ _ | exact ih1 _ _ | exact ih2 _ _ _ | exact ih3 _ _ _ | exact ih4 _ _ _ | exact spec_l1Name.mono _ _ | exact spec_l2Attrs.mono _ _ | exact spec_l2Deep.mono _ _ _ | exact spec_l2Line.mono _ _ _ | exact LeO.refl _ | exact LeO.none _ | refine LeO.ite ?_ ?_ | refine LeO.bind ?_ (fun _ => ?_))
    · intro y0 y1 y2
      unfold spec_l2Fault.j4
      repeat' (with_reducible first | exact ih0 _ _ | exact ih1 _ _ | exact ih2 _ _ _ | exact ih3 _ _ _ | exact ih4 _ _ _ | exact spec_l1Name.mono _ _ | exact spec_l2Attrs.mono _ _ | exact spec_l2Deep.mono _ _ _ | exact spec_l2Line.mono _ _ _ | exact LeO.refl _ | exact LeO.none _ | refine LeO.ite ?_ ?_ | refine LeO.bind ?_ (fun _ => ?_))
theorem spec_l2Fault.mono : ∀ a0 k, LeO (spec_l2Fault.f k a0) (spec_l2Fault.f (k + 1) a0) := by
  intro a0 k
  obtain ⟨ih0, ih1, ih2, ih3, ih4⟩ := spec_l2Fault.mono_l k
  unfold spec_l2Fault.f
  repeat' (with_reducible first | exact ih0 _ _ | exact ih1 _ _ | exact ih2 _ _ _ | exact ih3 _ _ _ | exact ih4 _ _ _ | exact spec_l1Name.mono _ _ | exact spec_l2Attrs.mono _ _ | exact spec_l2Deep.mono _ _ _ | exact spec_l2Line.mono _ _ _ | exact LeO.refl _ | exact LeO.none _ | refine LeO.ite ?_ ?_ | refine LeO.bind ?_ (fun _ => ?_))
set_option maxHeartbeats 8000000 in
set_option maxRecDepth 100000 in
theorem spec_l2Fault.calls (k : Nat) (A0 : Option Addr) (c0 : Nat) (l0 : List (S48)) (r : Int) (w : World) (hr0 : Kd.C k48 w A0 l0.length l0) (hc0 : l0.length ≤ c0) (h : spec_l2Fault.f k l0 = some r) :
    Calls Try.prog 21 #[.slice A0 l0.length c0] w fun e w' => e = .returned (.int .i64 r) ∧ Drawn0 w w' := by
 have HR0 := a_ hr0; have HC0 := a_ hc0; clear hr0 hc0; have H : (if (l0.length : Int) < 1 then (spec_l2Fault.j0 k l0 true) else (spec_l2Fault.j0 k l0 (decide ((l0.length : Int) > 40)))) = some r := h; clear h; have HC2 := a_ H; clear H; go_enter Try.func21, Try.ntmps21
 go_upto_region 1 with (fail)
 go_cut [14] (fun v14 wc => ∃ (kq : Nat) (x14_1 : Bool), v14 = .bool x14_1 ∧ Aside0 (spec_l2Fault.j0 kq l0 x14_1 = some r) ∧ Aside0 (kq ≤ k) ∧ Drawn0 w wc)
 case first =>
  have H := HC2.out; clear HC2; by_cases cx0 : (l0.length : Int) < 1
  ·rw [if_pos cx0] at H; have cx0b0 : decide ((l0.length : Int) < 1) = true := decide_eq_true cx0; have cx0b1 : decide (l0.length < 1) = true := decide_eq_true (by omega); clear cx0; (first | rw [cx0b0] | (simp only [i64_w, i32_w]; rw [cx0b0]) | skip); have H' := a_ H; clear H; go_wp2
   go_meet
   case rel => exact ⟨_, (true), y3_, H', ⟨y106_⟩, y6_⟩
  ·rw [if_neg cx0] at H; have cx0b0 : decide ((l0.length : Int) < 1) = false := decide_eq_false cx0; have cx0b1 : decide (l0.length < 1) = false := decide_eq_false (by omega); clear cx0; (first | rw [cx0b0] | (simp only [i64_w, i32_w]; rw [cx0b0]) | skip); have H' := a_ H; clear H; go_wp2
   go_meet
   case rel => exact ⟨_, (decide ((l0.length : Int) > 40)), y3_, H', ⟨y106_⟩, y6_⟩
 case rest =>
  clear HC2; obtain ⟨kq, x14_1, rfl, HA, HJ1, ⟨mc1, rfl⟩⟩ := hcut; cases kq with
  | zero => exact absurd HA.out (by simp [spec_l2Fault.j0])
  | succ kj1 =>
   have H := HA.out; clear HA; simp only [spec_l2Fault.j0] at H; by_cases cx0 : x14_1 = true
   ·subst cx0; rw [if_pos rfl] at H; obtain rfl := Option.some.inj H; go_wp2
    go_ret
    exact ⟨y3_, y6_⟩
   ·replace cx0 := Bool.eq_false_iff.mpr cx0; subst cx0; rw [if_neg (show ¬ (false = true) by decide)] at H; have H' := a_ H; clear H; go_wp2
    go_loopg [3] kj1 (fun kq v3 w' => ∃ (x3_2 : Int), v3 = .int .i64 x3_2 ∧ Aside0 (spec_l2Fault.l0 kq l0 x3_2 = some r) ∧ Aside0 (kq ≤ kj1) ∧ Drawn0 w w')
    case atStart => exact ⟨(0), y3_, H', ⟨Nat.le_refl _⟩, y6_⟩
    case round =>
     clear H'; (try clear cx0); obtain ⟨x3_2, rfl, HA, HK2, ⟨m2, rfl⟩⟩ := hrel; cases gk with
     | zero => exact absurd HA.out (by simp [spec_l2Fault.l0])
     | succ k2 =>
      have H := HA.out; clear HA; simp only [spec_l2Fault.l0] at H; by_cases cx1 : x3_2 < (l0.length : Int); rw [if_pos cx1] at H; have cx1b0 : decide (x3_2 < (l0.length : Int)) = true := decide_eq_true cx1; clear cx1; by_cases cx2 : 0 ≤ x3_2; rw [if_pos cx2] at H; have cx2b0 : decide (0 ≤ x3_2) = true := decide_eq_true cx2; clear cx2; replace H := Option.bind_eq_some_iff.mp H; obtain ⟨tx3, Ay3, H⟩ := H; have Ax3 := a_ Ay3; clear Ay3; by_cases cx4 : tx3 = 0; rw [if_pos cx4] at H; have cx4b0 : (tx3 == 0) = true := beq_iff_eq.mpr cx4; have cx4b1 : (tx3 != 0) = false := bne_eq_false_iff_eq.mpr cx4; clear cx4; have HC9 := a_ H; clear H; have m1_0 := t_; have m1_2 := t_; have m1_3 := t_; rotate_left; rw [if_neg cx4] at H; have cx4b0 : (tx3 == 0) = false := beq_eq_false_iff_ne.mpr cx4; have cx4b1 : (tx3 != 0) = true := bne_iff_ne.mpr cx4; obtain rfl := Option.some.inj H; have m1_0 := t_; have m1_1 := t_; have m1_2 := t_; have m1_4 := t_; rotate_left
      ·rw [if_neg cx2] at H; exact absurd H y100_
      rw [if_neg cx1] at H; have cx1b0 : decide (x3_2 < (l0.length : Int)) = false := decide_eq_false cx1; clear cx1; obtain rfl := Option.some.inj H; have m1_5 := t_; rotate_left
      all_goals (
       first
       | fail_if_success clear m1_0
       |(clear m1_0; have p9922068 : 0 ≤ (x3_2 : Int) := of_decide_eq_true y2_; have q9922068 : x3_2 < (l0.length : Int) := of_decide_eq_true y2_; have BD123 := a_ (And.intro p9922068 q9922068))
       first
       | fail_if_success clear m1_1
       |(clear m1_1; (try clear hx9234155_0 hx9234155_1 hx9234155_2 hx9272214_0 hx9272214_1 hx9272214_2 hx9415450_0 hx9415450_1 hx9415450_2))
       first
       | fail_if_success clear m1_2
       |(clear m1_2; obtain ⟨ad9922068, A123_2, c123_2, e9922068, hx9922068_0, hx9922068_1, hx9922068_2, hl9922068_2, hi123_2⟩ := at_T48 HR0.out x3_2 p9922068 q9922068; cases e9922068; have HR123_2 := a_ hi123_2; have HC123_2 := a_ hl9922068_2; clear hi123_2 hl9922068_2; replace p9922068 := eq_true p9922068; replace q9922068 := eq_true q9922068)
       first
       | fail_if_success clear m1_3
       |(clear m1_3; have p9548309 : 0 ≤ (x3_2 : Int) := of_decide_eq_true y2_; have q9548309 : x3_2 < (l0.length : Int) := of_decide_eq_true y2_; obtain ⟨ad9548309, A124_2, c124_2, e9548309, hx9548309_0, hx9548309_1, hx9548309_2, hl9548309_2, hi124_2⟩ := at_T48 HR0.out x3_2 p9548309 q9548309; obtain rfl : ad9922068 = ad9548309 := (by injection e9548309); have HR124_2 := a_ hi124_2; have HC124_2 := a_ hl9548309_2; clear hi124_2 hl9548309_2; replace p9548309 := eq_true p9548309; replace q9548309 := eq_true q9548309; have ea_ := Option.some.inj (hx9922068_2.symm.trans hx9548309_2); injection ea_ with ea_ en_ ec_; subst ea_; subst ec_; clear en_; go_upto_region 10 with (first | ((with_reducible refine gate_callee (f := 43) rfl ?_); refine gc_ 43 28 Try.func43 #[.string ((rd_T48 l0 x3_2).f0)] ?_; (with_reducible refine (spec_l1Name.calls k2 ((rd_T48 l0 x3_2).f0) tx3 _ Ax3.out).mono ?_); rintro e w' ⟨rfl, ⟨nd, rfl⟩⟩; refine ⟨_, rfl, ?_⟩))
         (try simp only [Act.put, List.setIfInBounds_toArray, List.set_cons_zero, List.set_cons_succ]); go_cut [54] (fun v9105589 wc => ∃ (kq : Nat) (x54_8 : Bool), v9105589 = .bool x54_8 ∧ Aside0 (spec_l2Fault.j2 kq l0 x3_2 x54_8 = some r) ∧ Aside0 (kq ≤ k2) ∧ Drawn0 w wc)
         case first =>
          have H := HC9.out; clear HC9; by_cases cx5 : x3_2 = 0
          ·rw [if_pos cx5] at H; have cx5b0 : (x3_2 == 0) = true := beq_iff_eq.mpr cx5; have cx5b1 : (x3_2 != 0) = false := bne_eq_false_iff_eq.mpr cx5; clear cx5; (first | rw [cx5b0] | (simp only [i64_w, i32_w]; rw [cx5b0]) | skip); by_cases cx6 : ((rd_T48 l0 x3_2).f1) = (-1)
           ·rw [if_pos cx6] at H; have cx6b0 : (((rd_T48 l0 x3_2).f1) == (-1)) = true := beq_iff_eq.mpr cx6; have cx6b1 : (((rd_T48 l0 x3_2).f1) != (-1)) = false := bne_eq_false_iff_eq.mpr cx6; clear cx6; by_cases cx7 : x3_2 > 0
            ·rw [if_pos cx7] at H; have cx7b0 : decide (0 < x3_2) = true := decide_eq_true cx7; clear cx7; replace H := Option.bind_eq_some_iff.mp H; obtain ⟨tx8, Ay8, H⟩ := H; have Ax8 := a_ Ay8; clear Ay8; have H' := a_ H; clear H; go_wp2_with (first | (go_at_call 31; (with_reducible refine (spec_l1In.calls ((rd_T48 l0 x3_2).f1) 0 (wrap64 (x3_2 - 1)) tx8 _ Ax8.out).mono ?_); rintro e w' ⟨rfl, ⟨nd, rfl⟩⟩))
             go_meet
             case rel => exact ⟨_, (!tx8), y3_, H', ⟨y102_⟩, y6_⟩
            ·rw [if_neg cx7] at H; have cx7b0 : decide (0 < x3_2) = false := decide_eq_false cx7; clear cx7; have H' := a_ H; clear H; go_wp2
             go_meet
             case rel => exact ⟨_, (false), y3_, H', ⟨y102_⟩, y6_⟩
           ·rw [if_neg cx6] at H; have cx6b0 : (((rd_T48 l0 x3_2).f1) == (-1)) = false := beq_eq_false_iff_ne.mpr cx6; have cx6b1 : (((rd_T48 l0 x3_2).f1) != (-1)) = true := bne_iff_ne.mpr cx6; have H' := a_ H; clear H; go_wp2
            go_meet
            case rel => exact ⟨_, (true), y3_, H', ⟨y102_⟩, y6_⟩
          ·rw [if_neg cx5] at H; have cx5b0 : (x3_2 == 0) = false := beq_eq_false_iff_ne.mpr cx5; have cx5b1 : (x3_2 != 0) = true := bne_iff_ne.mpr cx5; (first | rw [cx5b0] | (simp only [i64_w, i32_w]; rw [cx5b0]) | skip); by_cases cx6 : x3_2 > 0
           ·rw [if_pos cx6] at H; have cx6b0 : decide (0 < x3_2) = true := decide_eq_true cx6; clear cx6; replace H := Option.bind_eq_some_iff.mp H; obtain ⟨tx7, Ay7, H⟩ := H; have Ax7 := a_ Ay7; clear Ay7; have H' := a_ H; clear H; go_wp2_with (first | (go_at_call 31; (with_reducible refine (spec_l1In.calls ((rd_T48 l0 x3_2).f1) 0 (wrap64 (x3_2 - 1)) tx7 _ Ax7.out).mono ?_); rintro e w' ⟨rfl, ⟨nd, rfl⟩⟩))
            go_meet
            case rel => exact ⟨_, (!tx7), y3_, H', ⟨y102_⟩, y6_⟩
           ·rw [if_neg cx6] at H; have cx6b0 : decide (0 < x3_2) = false := decide_eq_false cx6; clear cx6; have H' := a_ H; clear H; go_wp2
            go_meet
            case rel => exact ⟨_, (false), y3_, H', ⟨y102_⟩, y6_⟩
         case rest =>
          clear HC9; (try clear cx0); (try clear cx1); (try clear cx1b0); (try clear cx2); (try clear cx2b0); (try clear cx4); (try clear cx4b0); (try clear cx4b1); (try clear hx9922068_2); (try clear hx9548309_0); (try clear hx9548309_1); (try clear hx9548309_2); (try clear p9548309); (try clear q9548309); obtain ⟨kq, x54_8, rfl, HA, HJ8, ⟨mc8, rfl⟩⟩ := hcut; cases kq with
          | zero => exact absurd HA.out (by simp [spec_l2Fault.j2])
          | succ kj8 =>
           have H := HA.out; clear HA; simp only [spec_l2Fault.j2] at H; by_cases cx5 : x54_8 = true
           ·subst cx5; rw [if_pos rfl] at H; obtain rfl := Option.some.inj H; go_wp2
            go_ret
            exact ⟨y3_, y6_⟩
           ·replace cx5 := Bool.eq_false_iff.mpr cx5; subst cx5; rw [if_neg (show ¬ (false = true) by decide)] at H; have HC17 := a_ H; clear H; go_upto_region 12 with (fail)
            go_cut [62] (fun v9386570 wc => ∃ (kq : Nat) (x62_16 : Bool), v9386570 = .bool x62_16 ∧ Aside0 (spec_l2Fault.j3 kq l0 x3_2 x62_16 = some r) ∧ Aside0 (kq ≤ kj8) ∧ Drawn0 w wc)
            case first =>
             have H := HC17.out; clear HC17; by_cases cx6 : x3_2 > 0
             ·rw [if_pos cx6] at H; have cx6b0 : decide (0 < x3_2) = true := decide_eq_true cx6; clear cx6; (first | rw [cx6b0] | (simp only [i64_w, i32_w]; rw [cx6b0]) | skip); replace H := Option.bind_eq_some_iff.mp H; obtain ⟨tx7, Ay7, H⟩ := H; have Ax7 := a_ Ay7; clear Ay7; have H' := a_ H; clear H; go_wp2_with (first | (go_at_call 44; (with_reducible refine (spec_l2Line.calls kj8 _ _ l0 x3_2 tx7 _ ?side1 ?side2 Ax7.out).mono ?_); (case side1 => repeat (first | exact HR0.out | (with_reducible refine Kd.C_alloc ?_ _) | (with_reducible refine Kd.C_drewN ?_ _) | (with_reducible refine Kd.C_drew ?_))); (case side2 => exact HC0.out); rintro e w' ⟨rfl, ⟨nd, rfl⟩⟩))
              go_meet
              case rel => exact ⟨_, (!tx7), y3_, H', ⟨by have := HJ1.out; have := HK2.out; have := HJ8.out; first | omega | exact Nat.le_refl _⟩, y6_⟩
             ·rw [if_neg cx6] at H; have cx6b0 : decide (0 < x3_2) = false := decide_eq_false cx6; clear cx6; (first | rw [cx6b0] | (simp only [i64_w, i32_w]; rw [cx6b0]) | skip); have H' := a_ H; clear H; go_wp2
              go_meet
              case rel => exact ⟨_, (false), y3_, H', ⟨by have := HJ1.out; have := HK2.out; have := HJ8.out; first | omega | exact Nat.le_refl _⟩, y6_⟩
            case rest =>
             clear HC17; (try clear cx0); (try clear cx1); (try clear cx1b0); (try clear cx2); (try clear cx2b0); (try clear cx4); (try clear cx4b0); (try clear cx4b1); (try clear cx5); (try clear hx9922068_2); (try clear hx9548309_0); (try clear hx9548309_1); (try clear hx9548309_2); (try clear p9548309); (try clear q9548309); obtain ⟨kq, x62_16, rfl, HA, HJ16, ⟨mc16, rfl⟩⟩ := hcut; cases kq with
             | zero => exact absurd HA.out (by simp [spec_l2Fault.j3])
             | succ kj16 =>
              have H := HA.out; clear HA; simp only [spec_l2Fault.j3] at H; by_cases cx6 : x62_16 = true
              ·subst cx6; rw [if_pos rfl] at H; obtain rfl := Option.some.inj H; go_wp2
               go_ret
               exact ⟨y3_, y6_⟩
              ·replace cx6 := Bool.eq_false_iff.mpr cx6; subst cx6; rw [if_neg (show ¬ (false = true) by decide)] at H; have HC21 := a_ H; clear H; go_upto_region 14 with (fail)
               go_cut [74] (fun v9234926 wc => ∃ (kq : Nat) (x74_20 : Bool), v9234926 = .bool x74_20 ∧ Aside0 (spec_l2Fault.j4 kq l0 x3_2 x74_20 = some r) ∧ Aside0 (kq ≤ kj16) ∧ Drawn0 w wc)
               case first =>
                have H := HC21.out; clear HC21; replace H := Option.bind_eq_some_iff.mp H; obtain ⟨tx7, Ay7, H⟩ := H; have Ax7 := a_ Ay7; clear Ay7; by_cases cx8 : tx7 > 8
                ·rw [if_pos cx8] at H; have cx8b0 : decide (8 < tx7) = true := decide_eq_true cx8; clear cx8; (first | rw [cx8b0] | (simp only [i64_w, i32_w]; rw [cx8b0]) | skip); have H' := a_ H; clear H; go_wp2_with (first | ((with_reducible refine gate_callee (f := 45) rfl ?_); refine gc_ 45 65 Try.func45 #[.slice (some ad9922068) l0.length c0, .int .i64 x3_2] ?_; (with_reducible refine (spec_l2Deep.calls kj16 _ _ l0 x3_2 tx7 _ ?side1 ?side2 Ax7.out).mono ?_); (case side1 => repeat (first | exact HR0.out | (with_reducible refine Kd.C_alloc ?_ _) | (with_reducible refine Kd.C_drewN ?_ _) | (with_reducible refine Kd.C_drew ?_))); (case side2 => exact HC0.out); rintro e w' ⟨rfl, ⟨nd, rfl⟩⟩; refine ⟨_, rfl, ?_⟩))
                 go_meet
                 case rel => exact ⟨_, (true), y3_, H', ⟨by have := HJ1.out; have := HK2.out; have := HJ8.out; have := HJ16.out; first | omega | exact Nat.le_refl _⟩, y6_⟩
                ·rw [if_neg cx8] at H; have cx8b0 : decide (8 < tx7) = false := decide_eq_false cx8; clear cx8; (first | rw [cx8b0] | (simp only [i64_w, i32_w]; rw [cx8b0]) | skip); by_cases cx9 : 0 ≤ x3_2
                 ·rw [if_pos cx9] at H; have cx9b0 : decide (0 ≤ x3_2) = true := decide_eq_true cx9; clear cx9; by_cases cx10 : x3_2 < (l0.length : Int)
                  ·rw [if_pos cx10] at H; have cx10b0 : decide (x3_2 < (l0.length : Int)) = true := decide_eq_true cx10; clear cx10; have H' := a_ H; clear H; go_wp2_with (first | ((with_reducible refine gate_callee (f := 45) rfl ?_); refine gc_ 45 65 Try.func45 #[.slice (some ad9922068) l0.length c0, .int .i64 x3_2] ?_; (with_reducible refine (spec_l2Deep.calls kj16 _ _ l0 x3_2 tx7 _ ?side1 ?side2 Ax7.out).mono ?_); (case side1 => repeat (first | exact HR0.out | (with_reducible refine Kd.C_alloc ?_ _) | (with_reducible refine Kd.C_drewN ?_ _) | (with_reducible refine Kd.C_drew ?_))); (case side2 => exact HC0.out); rintro e w' ⟨rfl, ⟨nd, rfl⟩⟩; refine ⟨_, rfl, ?_⟩; have p9197486 : 0 ≤ (x3_2 : Int) := of_decide_eq_true y2_; have q9197486 : x3_2 < (l0.length : Int) := of_decide_eq_true y2_; (try clear hx9922068_0 hx9922068_1 hx9922068_2 hx9548309_0 hx9548309_1 hx9548309_2); obtain ⟨ad9197486, A130_2, c130_2, e9197486, hx9197486_0, hx9197486_1, hx9197486_2, hl9197486_2, hi130_2⟩ := at_T48 HR0.out x3_2 p9197486 q9197486; obtain rfl : ad9922068 = ad9197486 := (by injection e9197486); have HR130_2 := a_ hi130_2; have HC130_2 := a_ hl9197486_2; clear hi130_2 hl9197486_2; replace p9197486 := eq_true p9197486; replace q9197486 := eq_true q9197486))
                   go_meet
                   case rel => exact ⟨_, (decide ((((rd_T48 l0 x3_2).f2).length : Int) > 6)), y3_, H', ⟨by have := HJ1.out; have := HK2.out; have := HJ8.out; have := HJ16.out; first | omega | exact Nat.le_refl _⟩, y6_⟩
                  ·rw [if_neg cx10] at H; exact absurd H y100_
                 ·rw [if_neg cx9] at H; exact absurd H y100_
               case rest =>
                clear HC21; (try clear cx0); (try clear cx1); (try clear cx1b0); (try clear cx2); (try clear cx2b0); (try clear cx4); (try clear cx4b0); (try clear cx4b1); (try clear cx5); (try clear cx6); (try clear hx9922068_2); (try clear hx9548309_0); (try clear hx9548309_1); (try clear hx9548309_2); (try clear p9548309); (try clear q9548309); obtain ⟨kq, x74_20, rfl, HA, HJ20, ⟨mc20, rfl⟩⟩ := hcut; cases kq with
                | zero => exact absurd HA.out (by simp [spec_l2Fault.j4])
                | succ kj20 =>
                 have H := HA.out; clear HA; simp only [spec_l2Fault.j4] at H; by_cases cx7 : x74_20 = true; subst cx7; rw [if_pos rfl] at H; obtain rfl := Option.some.inj H; have m4_0 := t_; rotate_left; replace cx7 := Bool.eq_false_iff.mpr cx7; subst cx7; rw [if_neg (show ¬ (false = true) by decide)] at H; by_cases cx8 : 0 ≤ x3_2; rw [if_pos cx8] at H; have cx8b0 : decide (0 ≤ x3_2) = true := decide_eq_true cx8; clear cx8; by_cases cx9 : x3_2 < (l0.length : Int); rw [if_pos cx9] at H; have cx9b0 : decide (x3_2 < (l0.length : Int)) = true := decide_eq_true cx9; clear cx9; replace H := Option.bind_eq_some_iff.mp H; obtain ⟨tx10, Ay10, H⟩ := H; have Ax10 := a_ Ay10; clear Ay10; by_cases cx11 : tx10 = 0; rw [if_pos cx11] at H; have cx11b0 : (tx10 == 0) = true := beq_iff_eq.mpr cx11; have cx11b1 : (tx10 != 0) = false := bne_eq_false_iff_eq.mpr cx11; clear cx11; have H' := a_ H; clear H; have m4_1 := t_; have m4_2 := t_; rotate_left; rw [if_neg cx11] at H; have cx11b0 : (tx10 == 0) = false := beq_eq_false_iff_ne.mpr cx11; have cx11b1 : (tx10 != 0) = true := bne_iff_ne.mpr cx11; obtain rfl := Option.some.inj H; have m4_1 := t_; have m4_3 := t_; rotate_left
                 ·rw [if_neg cx9] at H; exact absurd H y100_
                 ·rw [if_neg cx8] at H; exact absurd H y100_
                 all_goals (
                  first
                  | fail_if_success clear m4_0
                  |(clear m4_0; go_wp2
                    go_ret
                    exact ⟨y3_, y6_⟩)
                  first
                  | fail_if_success clear m4_1
                  |(clear m4_1; have p9058667 : 0 ≤ (x3_2 : Int) := of_decide_eq_true y2_; have q9058667 : x3_2 < (l0.length : Int) := of_decide_eq_true y2_; (try clear hx9922068_0 hx9922068_1 hx9922068_2 hx9548309_0 hx9548309_1 hx9548309_2 hx9197486_0 hx9197486_1 hx9197486_2); obtain ⟨ad9058667, A131_2, c131_2, e9058667, hx9058667_0, hx9058667_1, hx9058667_2, hl9058667_2, hi131_2⟩ := at_T48 HR0.out x3_2 p9058667 q9058667; obtain rfl : ad9922068 = ad9058667 := (by injection e9058667); have HR131_2 := a_ hi131_2; have HC131_2 := a_ hl9058667_2; clear hi131_2 hl9058667_2; replace p9058667 := eq_true p9058667; replace q9058667 := eq_true q9058667; go_wp2_with (first | ((with_reducible refine gate_callee (f := 46) rfl ?_); refine gc_ 46 79 Try.func46 #[.slice A131_2 ((rd_T48 l0 x3_2).f2).length c131_2] ?_; (with_reducible refine (spec_l2Attrs.calls kj20 _ _ ((rd_T48 l0 x3_2).f2) tx10 _ ?side1 ?side2 Ax10.out).mono ?_); (case side1 => repeat (first | exact HR131_2.out | (with_reducible refine Kd.C_alloc ?_ _) | (with_reducible refine Kd.C_drewN ?_ _) | (with_reducible refine Kd.C_drew ?_))); (case side2 => exact HC131_2.out); rintro e w' ⟨rfl, ⟨nd, rfl⟩⟩; refine ⟨_, rfl, ?_⟩)))
                  first
                  | fail_if_success clear m4_2
                  |(clear m4_2; go_roundg kj20
                    case measure => have := HJ1.out; have := HK2.out; have := HJ8.out; have := HJ16.out; have := HJ20.out; omega
                    case rel => exact ⟨(wrap64 (x3_2 + 1)), y3_, H', ⟨by have := HJ1.out; have := HK2.out; have := HJ8.out; have := HJ16.out; have := HJ20.out; omega⟩, y6_⟩)
                  first
                  | fail_if_success clear m4_3
                  |(clear m4_3; go_ret
                    exact ⟨y3_, y6_⟩)))
       first
       | fail_if_success clear m1_4
       |(clear m1_4; have p9234155 : 0 ≤ (x3_2 : Int) := of_decide_eq_true y2_; have q9234155 : x3_2 < (l0.length : Int) := of_decide_eq_true y2_; (try clear hx9272214_0 hx9272214_1 hx9272214_2 hx9415450_0 hx9415450_1 hx9415450_2); obtain ⟨ad9234155, A124_2, c124_2, e9234155, hx9234155_0, hx9234155_1, hx9234155_2, hl9234155_2, hi124_2⟩ := at_T48 HR0.out x3_2 p9234155 q9234155; obtain rfl : ad9922068 = ad9234155 := (by injection e9234155); have HR124_2 := a_ hi124_2; have HC124_2 := a_ hl9234155_2; clear hi124_2 hl9234155_2; replace p9234155 := eq_true p9234155; replace q9234155 := eq_true q9234155; have ea_ := Option.some.inj (hx9922068_2.symm.trans hx9234155_2); injection ea_ with ea_ en_ ec_; subst ea_; subst ec_; clear en_; go_wp2_with (first | ((with_reducible refine gate_callee (f := 43) rfl ?_); refine gc_ 43 28 Try.func43 #[.string ((rd_T48 l0 x3_2).f0)] ?_; (with_reducible refine (spec_l1Name.calls k2 ((rd_T48 l0 x3_2).f0) tx3 _ Ax3.out).mono ?_); rintro e w' ⟨rfl, ⟨nd, rfl⟩⟩; refine ⟨_, rfl, ?_⟩))
         go_ret
         exact ⟨y3_, y6_⟩)
       first
       | fail_if_success clear m1_5
       |(clear m1_5; go_wp2
         go_ret
         exact ⟨y3_, y6_⟩))

/-! ### laws_toAttr: function 56 -/
def laws_toAttr.f (a0_0 : ByteArray) (a0_1 : ByteArray) : Option (ByteArray × ByteArray) := some (a0_0, a0_1)
set_option maxHeartbeats 8000000 in
set_option maxRecDepth 100000 in
theorem laws_toAttr.calls (a0_0 : ByteArray) (a0_1 : ByteArray) (r1 : ByteArray) (r2 : ByteArray) (w : World) (h : laws_toAttr.f a0_0 a0_1 = some (r1, r2)) :
    Calls Try.prog 56 #[.agg #[.string a0_0, .string a0_1]] w fun e w' => e = .returned (.agg #[.string r1, .string r2]) ∧ Below w.heap.size w w' := by
 have hu84 := Try.underlying84; have hu78 := Try.underlying78; have HB := a_ (Below.refl w.heap.size w); have H : (some (a0_0, a0_1)) = some (r1, r2) := h; clear h; simp only [Option.some.injEq, Prod.mk.injEq] at H; obtain ⟨rfl, rfl⟩ := H; go_enter Try.func56, Try.ntmps56
 go_wp2_with (first | ((with_reducible refine gate_dst (N := 1) rfl ?_); refine box_event zr_ (N := 1) zr_ (cs := #[.string a0_0, .string a0_1]) (t := 84) zs_ ?_; intro gb134 hg w2 hbox hb; have n0_ := a_ (below_step y0_ hb); have n1_ := a_ (hbox); have n2_ := a_ ((by rw [hg]; exact (below_size y0_) : w.heap.size ≤ gb134)); have n3_ := a_ ((by rw [hg]; exact (below_size y0_) : w.heap.size ≤ gb134)); clear HB; have HB := n0_; have BK134 := n1_; have GW134 := n2_; have GE134 := n3_; clear n0_ n1_ n2_ n3_; clear hb hbox hg) | ((with_reducible refine gate_dst (N := 2) rfl ?_); refine box_event zr_ (N := 2) zr_ (cs := #[.string (⟨#[]⟩ : ByteArray), .string (⟨#[]⟩ : ByteArray)]) (t := 78) zs_ ?_; intro gb135 hg w3 hbox hb; have n0_ := a_ (blk_below (g := gb134) (o := .cells #[.string a0_0, .string a0_1] 84 (0, 0)) y46_ hb); have n1_ := a_ (below_step y94_ hb); have n2_ := a_ (hbox); have n3_ := a_ ((by rw [hg]; exact (below_size y94_) : w.heap.size ≤ gb135)); have n4_ := a_ ((by rw [hg]; exact (below_size y94_) : w.heap.size ≤ gb135)); have n5_ := a_ ((by rw [hg]; exact Nat.ne_of_lt (blk_lt (g := gb134) (o := .cells #[.string a0_0, .string a0_1] 84 (0, 0)) y46_) : gb134 ≠ gb135)); have n6_ := a_ ((by rw [hg]; exact Nat.ne_of_gt (blk_lt (g := gb134) (o := .cells #[.string a0_0, .string a0_1] 84 (0, 0)) y46_) : gb135 ≠ gb134)); clear BK134; clear HB; have BK134 := n0_; have HB := n1_; have BK135 := n2_; have GW135 := n3_; have GE135 := n4_; have NB134_135 := n5_; have NB135_134 := n6_; clear n0_ n1_ n2_ n3_ n4_ n5_ n6_; clear hb hbox hg) | ((with_reducible refine gate_dst (N := 3) rfl ?_); refine box_event zr_ (N := 3) zr_ (cs := #[.string (⟨#[]⟩ : ByteArray), .string (⟨#[]⟩ : ByteArray)]) (t := 78) zs_ ?_; intro gb136 hg w4 hbox hb; have n0_ := a_ (blk_below (g := gb134) (o := .cells #[.string a0_0, .string a0_1] 84 (0, 0)) y46_ hb); have n1_ := a_ (blk_below (g := gb135) (o := .cells #[.string (⟨#[]⟩ : ByteArray), .string (⟨#[]⟩ : ByteArray)] 78 (0, 0)) y107_ hb); have n2_ := a_ (below_step y77_ hb); have n3_ := a_ (hbox); have n4_ := a_ ((by rw [hg]; exact (below_size y77_) : w.heap.size ≤ gb136)); have n5_ := a_ ((by rw [hg]; exact (below_size y77_) : w.heap.size ≤ gb136)); have n6_ := a_ ((by rw [hg]; exact Nat.ne_of_lt (blk_lt (g := gb134) (o := .cells #[.string a0_0, .string a0_1] 84 (0, 0)) y46_) : gb134 ≠ gb136)); have n7_ := a_ ((by rw [hg]; exact Nat.ne_of_gt (blk_lt (g := gb134) (o := .cells #[.string a0_0, .string a0_1] 84 (0, 0)) y46_) : gb136 ≠ gb134)); have n8_ := a_ ((by rw [hg]; exact Nat.ne_of_lt (blk_lt (g := gb135) (o := .cells #[.string (⟨#[]⟩ : ByteArray), .string (⟨#[]⟩ : ByteArray)] 78 (0, 0)) y107_) : gb135 ≠ gb136)); have n9_ := a_ ((by rw [hg]; exact Nat.ne_of_gt (blk_lt (g := gb135) (o := .cells #[.string (⟨#[]⟩ : ByteArray), .string (⟨#[]⟩ : ByteArray)] 78 (0, 0)) y107_) : gb136 ≠ gb135)); clear BK134; clear BK135; clear HB; have BK134 := n0_; have BK135 := n1_; have HB := n2_; have BK136 := n3_; have GW136 := n4_; have GE136 := n5_; have NB134_136 := n6_; have NB136_134 := n7_; have NB135_136 := n8_; have NB136_135 := n9_; clear n0_ n1_ n2_ n3_ n4_ n5_ n6_ n7_ n8_ n9_; clear hb hbox hg; have hnb5 := NB134_135.out; have hnc5 := NB135_134.out; have hnb6 := NB134_136.out; have hnc6 := NB136_134.out; have hcz7_0 : w4.cell? ⟨gb134, 0, none⟩ = some (.string a0_0) := (blk_cell BK134.out 0).trans rfl; have hcz7_1 : w4.cell? ⟨gb134, 1, none⟩ = some (.string a0_1) := (blk_cell BK134.out 1).trans rfl; have hfz7_0 := blk_frozen BK134.out 0; have hfz7_1 := blk_frozen BK134.out 1; have hnb8 := NB136_135.out; have hnc8 := NB135_136.out; have hcz9_0 : w4.cell? ⟨gb136, 0, none⟩ = some (.string (⟨#[]⟩ : ByteArray)) := (blk_cell BK136.out 0).trans rfl; have hcz9_1 : w4.cell? ⟨gb136, 1, none⟩ = some (.string (⟨#[]⟩ : ByteArray)) := (blk_cell BK136.out 1).trans rfl; have hfz9_0 := blk_frozen BK136.out 0; have hfz9_1 := blk_frozen BK136.out 1; have hcz10_0 : w4.cell? ⟨gb135, 0, none⟩ = some (.string (⟨#[]⟩ : ByteArray)) := (blk_cell BK135.out 0).trans rfl; have hcz10_1 : w4.cell? ⟨gb135, 1, none⟩ = some (.string (⟨#[]⟩ : ByteArray)) := (blk_cell BK135.out 1).trans rfl; have hfz10_0 := blk_frozen BK135.out 0; have hfz10_1 := blk_frozen BK135.out 1))
 refine bodyPost_ret (results_cell_row rfl _ _ gb135 78 #[.string a0_0, .string a0_1] (0, 0) _ rfl (by (with_reducible repeat (first | refine blk_drewN ?_ _ | refine blk_drew ?_ | refine blk_alloc ?_ _)); refine blk_put (cs := #[.string a0_0, .string (⟨#[]⟩ : ByteArray)]) ?_ 1 _ rfl; (with_reducible repeat (first | refine blk_drewN ?_ _ | refine blk_drew ?_ | refine blk_alloc ?_ _)); refine blk_put (cs := #[.string (⟨#[]⟩ : ByteArray), .string (⟨#[]⟩ : ByteArray)]) ?_ 0 _ rfl; (with_reducible repeat (first | refine blk_drewN ?_ _ | refine blk_drew ?_ | refine blk_alloc ?_ _)); refine blk_far ?_ NB135_136.out _; (with_reducible repeat (first | refine blk_drewN ?_ _ | refine blk_drew ?_ | refine blk_alloc ?_ _)); refine blk_far ?_ NB135_136.out _; (with_reducible repeat (first | refine blk_drewN ?_ _ | refine blk_drew ?_ | refine blk_alloc ?_ _)); exact BK135.out) Try.underlying78 rfl y35_) rfl ?_; exact ⟨y4_, by repeat (first | (with_reducible first | exact HB.out | apply below_alloc | apply pw_below_drewN | apply below_drew1 | refine below_set ?_ GE134.out | refine below_set ?_ GE135.out | refine below_set ?_ GE136.out) | exact HB.out)⟩

/-! ### laws_toAttrS: function 47 -/
def laws_toAttrS.l0 : Nat → List (S84) → List (S78) → Int → Option ((List (S78)))
  | 0, _, _, _ => none
  | k + 1, x0, x3, x4 => if x4 < (x0.length : Int) then (if 0 ≤ x4 then ((laws_toAttr.f ((rd_T84 x0 x4).f0) ((rd_T84 x0 x4).f1)).bind fun bt141 => (if x4 < (x3.length : Int) then (laws_toAttrS.l0 k x0 (x3.set (x4 : Int).toNat (⟨bt141.1, bt141.2⟩ : S78)) (wrap64 (x4 + 1))) else (none))) else (none)) else (some x3)
def laws_toAttrS.f (k : Nat) (l0 : List (S84)) : Option ((List (S78))) := if 0 ≤ (l0.length : Int) then (if ((l0.length : Int) : Int).toNat ≤ 8796093022208 then (laws_toAttrS.l0 k l0 (List.replicate ((l0.length : Int) : Int).toNat z78) 0) else (none)) else (none)
theorem laws_toAttrS.mono_l : ∀ k, (∀ y0 y1 y2, LeO (laws_toAttrS.l0 k y0 y1 y2) (laws_toAttrS.l0 (k + 1) y0 y1 y2))
  | 0 => fun _ _ _ r h => by simp [laws_toAttrS.l0] at h
  | k + 1 => by
    have ih0 := laws_toAttrS.mono_l k
    · intro y0 y1 y2
      unfold laws_toAttrS.l0
      repeat' (with_reducible first | exact ih0 _ _ _ | exact LeO.refl _ | exact LeO.none _ | refine LeO.ite ?_ ?_ | refine LeO.bind ?_ (fun _ => ?_))
theorem laws_toAttrS.mono : ∀ a0 k, LeO (laws_toAttrS.f k a0) (laws_toAttrS.f (k + 1) a0) := by
  intro a0 k
  have ih0 := laws_toAttrS.mono_l k
  unfold laws_toAttrS.f
  repeat' (with_reducible first | exact ih0 _ _ _ | exact LeO.refl _ | exact LeO.none _ | refine LeO.ite ?_ ?_ | refine LeO.bind ?_ (fun _ => ?_))
set_option maxHeartbeats 8000000 in
set_option maxRecDepth 100000 in
theorem laws_toAttrS.calls (k : Nat) (A0 : Option Addr) (c0 : Nat) (l0 : List (S84)) (r : List (S78)) (w : World) (hr0 : Kd.C k84 w A0 l0.length l0) (hc0 : l0.length ≤ c0) (h : laws_toAttrS.f k l0 = some r) :
    Calls Try.prog 47 #[.slice A0 l0.length c0] w fun e w' => ∃ v0_ : Value, e = .returned (v0_) ∧ Kd.R k78 78 w' w.heap.size (fun _ => True) v0_ r ∧ Below w.heap.size w w' := by
 have hu84 := Try.underlying84; have hu78 := Try.underlying78; have HR0 := a_ hr0; have HC0 := a_ hc0; clear hr0 hc0; have HB := a_ (Below.refl w.heap.size w); have H : (if 0 ≤ (l0.length : Int) then (if ((l0.length : Int) : Int).toNat ≤ 8796093022208 then (laws_toAttrS.l0 k l0 (List.replicate ((l0.length : Int) : Int).toNat z78) 0) else (none)) else (none)) = some r := h; clear h; by_cases cx0 : 0 ≤ (l0.length : Int)
 ·rw [if_pos cx0] at H; have cx0b0 := eq_true cx0; have cx0b1 : decide (0 ≤ (l0.length : Int)) = true := decide_eq_true cx0; clear cx0; by_cases cx1 : ((l0.length : Int) : Int).toNat ≤ 8796093022208
  ·rw [if_pos cx1] at H; have cx1b0 := eq_true cx1; have cx1b1 : decide (((l0.length : Int) : Int).toNat ≤ 8796093022208) = true := decide_eq_true cx1; clear cx1; obtain ⟨y137, hy_⟩ : ∃ y_ : List (S78), y_ = (List.replicate ((l0.length : Int) : Int).toNat z78) := ⟨_, rfl⟩; replace H : (laws_toAttrS.l0 k l0 y137 0) = some r := z0_; have Ny137 := a_ hy_; clear hy_; have H' := a_ H; clear H; go_enter Try.func47, Try.ntmps47
   go_wp2_with (first | ((with_reducible refine gate_dst (N := 7) rfl ?_); refine Kd.R_make k78 _ 78 rfl (N := 7) rfl 46 _ _ rfl (l0.length : Int) rfl rfl Try.underlying46 (.agg #[(.string ⟨#[]⟩), (.string ⟨#[]⟩)]) 32 info78 rfl y49_ (by omega) z78 (ok := fun _ => True) (okp := fun _ => True) (k78_mkM _ _ _ z78 ) (fun _ hk => hk) trivial (of_decide_eq_true y2_) (Nat.le_trans (Nat.mul_le_mul_right _ (of_decide_eq_true y2_ : (l0.length : Int).toNat ≤ 8796093022208)) (by omega)) (Below.refl _ _) (Nat.le_refl _) ?_; intro v138 w4 ho5 hb hg_ hnew_; clear hg_ hnew_; (first | rw [← Ny137.out] at ho5 | (simp only [Int.reduceToNat] at ho5; rw [← Ny137.out] at ho5)); have n0_ := a_ (Kd.R_lower ho5 (below_size y0_)); have n1_ := a_ (below_step y0_ hb); clear HB; have HO139 := n0_; have HB := n1_; clear n0_ n1_; clear hb ho5))
   go_loopg [4] k (fun kq v4 w' => ∃ (x3_1 : List (S78)) (x4_1 : Int), v4 = .int .i64 x4_1 ∧ Aside0 (laws_toAttrS.l0 kq l0 x3_1 x4_1 = some r) ∧ Aside0 (kq ≤ k) ∧ Aside0 (Kd.R k78 78 w' w.heap.size (fun _ => True) v138 x3_1) ∧ Aside0 (Below w.heap.size w w'))
   case atStart => exact ⟨(y137), (0), y3_, H', ⟨Nat.le_refl _⟩, ⟨by (with_reducible repeat (first | apply Kd.R_alloc | apply Kd.R_drewN | apply Kd.R_drew)); exact HO139.out⟩, ⟨y0_⟩⟩
   case round =>
    clear H'; (try clear cx0); (try clear cx0b0); (try clear cx0b1); (try clear cx1); (try clear cx1b0); (try clear cx1b1); obtain ⟨x3_1, x4_1, rfl, HA, HK1, HO_3, HB⟩ := hrel; cases gk with
    | zero => exact absurd HA.out (by simp [laws_toAttrS.l0])
    | succ k1 =>
     have H := HA.out; clear HA; simp only [laws_toAttrS.l0] at H; by_cases cx2 : x4_1 < (l0.length : Int)
     ·rw [if_pos cx2] at H; have cx2b0 : decide (x4_1 < (l0.length : Int)) = true := decide_eq_true cx2; clear cx2; by_cases cx3 : 0 ≤ x4_1
      ·rw [if_pos cx3] at H; have cx3b0 : decide (0 ≤ x4_1) = true := decide_eq_true cx3; clear cx3; replace H := Option.bind_eq_some_iff.mp H; obtain ⟨⟨t141, t142⟩, A80, H⟩ := H; replace H : (if x4_1 < (x3_1.length : Int) then (laws_toAttrS.l0 k1 l0 (x3_1.set (x4_1 : Int).toNat (⟨t141, t142⟩ : S78)) (wrap64 (x4_1 + 1))) else (none)) = some r := H; have A8 := a_ A80; clear A80; by_cases cx4 : x4_1 < (x3_1.length : Int)
       ·rw [if_pos cx4] at H; have cx4b0 : decide (x4_1 < (x3_1.length : Int)) = true := decide_eq_true cx4; clear cx4; obtain ⟨y143, hy_⟩ : ∃ y_ : List (S78), y_ = (x3_1.set (x4_1 : Int).toNat (⟨t141, t142⟩ : S78)) := ⟨_, rfl⟩; replace H : (laws_toAttrS.l0 k1 l0 y143 (wrap64 (x4_1 + 1))) = some r := z0_; have Ny143 := a_ hy_; clear hy_; have H' := a_ H; clear H; have p140 : 0 ≤ (x4_1 : Int) := of_decide_eq_true y2_; have q140 : x4_1 < (l0.length : Int) := of_decide_eq_true y2_; obtain ⟨ad140, e140, hx140_0, hx140_1⟩ := at_T84 HR0.out x4_1 p140 q140; cases e140; replace hx140_0 := cT_ HB.out hx140_0; replace hx140_1 := cT_ HB.out hx140_1; replace p140 := eq_true p140; replace q140 := eq_true q140
        go_wp2_with (first | ((with_reducible refine gate_callee (f := 56) rfl ?_); refine gc_ 56 20 Try.func56 #[.agg #[.string ((rd_T84 l0 x4_1).f0), .string ((rd_T84 l0 x4_1).f1)]] ?_; (with_reducible refine (laws_toAttr.calls ((rd_T84 l0 x4_1).f0) ((rd_T84 l0 x4_1).f1) t141 t142 _ A8.out).mono ?_); rintro e w11 ⟨rfl, hb⟩; refine ⟨_, rfl, ?_⟩; have n0_ := a_ (Kd.R_below y99_ hb); have n1_ := a_ (below_step y0_ hb); clear HO_3; clear HB; have HO_3 := n0_; have HB := n1_; clear n0_ n1_; (try clear hb); (try clear hb2); (try clear hk); (try clear hi); have p10 : 0 ≤ (x4_1 : Int) := of_decide_eq_true y2_; have q10 : (x4_1 : Int) < ((x3_1.length : Int) : Int) := of_decide_eq_true y2_; obtain ⟨go10, co10, eo10, gb10, gl10, cl10, HG10⟩ := Kd.R_form HO_3.out (by omega); (first | cases eo10 | (injection eo10 with ea_ en_ ec_; (first | subst ea_ | (injection ea_ with ea_; subst ea_)); subst ec_; clear en_)); have GB10 := a_ gb10; have GG10 := a_ HG10; clear gb10 gl10 HG10; obtain ⟨ce10, hcl10, hM10, hcc10, hfr10⟩ := Kd.R_elem HO_3.out z78 (x4_1 : Int) p10 q10; obtain rfl := k78_openM hM10; have hx10_0 : w11.cell? ⟨go10, (x4_1 : Int).toNat * 2, none⟩ = some (.string ((rd_T78 x3_1 x4_1).f0)) := hcc10 0 _ rfl; have hx10_1 : w11.cell? ⟨go10, (x4_1 : Int).toNat * 2 + 1, none⟩ = some (.string ((rd_T78 x3_1 x4_1).f1)) := hcc10 1 _ rfl; have hf10_0 : w11.frozen? ⟨go10, (x4_1 : Int).toNat * 2, none⟩ = false := hfr10 0; have hf10_1 : w11.frozen? ⟨go10, (x4_1 : Int).toNat * 2 + 1, none⟩ = false := hfr10 1; clear hcl10 hcc10 hfr10 hM10; replace p10 := eq_true p10; replace q10 := eq_true q10; have HX12 := a_ (show Kd.R k78 78 w11 w.heap.size (fun _ => True) (.slice (some ⟨go10, 0, none⟩) x3_1.length co10) x3_1 from y99_); obtain ⟨ce12, hcl12, hM12, hcc12, hfr12⟩ := Kd.R_elem HX12.out z78 (x4_1 : Int) (of_decide_eq_true y2_) (by have h_ : (x4_1 : Int) < ((x3_1.length : Int) : Int) := of_decide_eq_true y2_; first | exact h_ | (have e_ := (Kd.R_reads' HO_3.out).1; omega) | simpa using h_); obtain rfl := k78_openM hM12; have HP12 := Kd.R_seg HX12.out (x4_1 : Int) (of_decide_eq_true y2_) (by have h_ : (x4_1 : Int) < ((x3_1.length : Int) : Int) := of_decide_eq_true y2_; first | exact h_ | (have e_ := (Kd.R_reads' HO_3.out).1; omega) | simpa using h_) (seg := [.string t141, .string t142]) (j := 0) hcl12 hcc12 (show 2 ≤ 2 from by decide) (x' := (⟨t141, t142⟩ : S78)) (k78_mkM _ _ _ (⟨t141, t142⟩ : S78) ) (fun _ hk => hk); have hx12_0 := hcc12 0 _ rfl; (try simp only [show (k78).sz = 2 from rfl, Nat.mul_one, Nat.add_zero] at hx12_0); have hf12_0 := hfr12 0; (try simp only [show (k78).sz = 2 from rfl, Nat.mul_one, Nat.add_zero] at hf12_0); have hx12_1 := hcc12 1 _ rfl; (try simp only [show (k78).sz = 2 from rfl, Nat.mul_one, Nat.add_zero] at hx12_1); have hf12_1 := hfr12 1; (try simp only [show (k78).sz = 2 from rfl, Nat.mul_one, Nat.add_zero] at hf12_1); clear hcl12 hcc12 hfr12 hM12) | ((with_reducible refine gate_store (t := 78) (p := 21) rfl ?_); refine store_event (t := 78) (p := 21) (v := ?vo_w13) (w1 := ((w11.setCell ⟨go10, (x4_1 : Int).toNat * 2, none⟩ (.string t141)).setCell ⟨go10, (x4_1 : Int).toNat * 2 + 1, none⟩ (.string t142))) ?hg ?ho ?hn ?hr ?_; (case ho => rfl); (case hg => rfl); (case hn => rfl); (case hr => first | (go_simp; done) | (go_simp; rfl)); intro w13 hw; have hg : w11.grownBy w13 (some go10) := (by rw [hw]; exact HP12.2); have hp_ : Kd.R k78 78 w13 w.heap.size (fun _ => True) (.slice (some ⟨go10, 0, none⟩) x3_1.length co10) y143 := (by rw [hw, Ny143.out]; exact HP12.1); clear HP12; have n0_ := a_ (hp_); have n1_ := a_ ((by rw [hw]; exact below_set (below_set (HB.out) GB10.out) GB10.out : Below w.heap.size w w13)); clear HO_3; clear HB; have HO_3 := n0_; have HB := n1_; clear n0_ n1_; clear hg hw hp_))
        go_roundg k1
        case measure => have := HK1.out; omega
        case rel => exact ⟨(y143), (wrap64 (x4_1 + 1)), y3_, H', ⟨y48_⟩, ⟨y99_⟩, ⟨y0_⟩⟩
       ·rw [if_neg cx4] at H; exact absurd H y100_
      ·rw [if_neg cx3] at H; exact absurd H y100_
     ·rw [if_neg cx2] at H; have cx2b0 : decide (x4_1 < (l0.length : Int)) = false := decide_eq_false cx2; clear cx2; obtain rfl := Option.some.inj H; go_wp2
      go_ret
      exact ⟨_, y4_, y99_, y0_⟩
  ·rw [if_neg cx1] at H; exact absurd H y100_
 ·rw [if_neg cx0] at H; exact absurd H y100_

/-! ### laws_toElem: function 22 -/
def laws_toElem.f (k : Nat) (a0_0 : ByteArray) (a0_1 : Int) (l0_2 : List (S84)) : Option (ByteArray × Int × (List (S78))) := (laws_toAttrS.f k l0_2).bind fun t147 => (some (a0_0, a0_1, t147))
theorem laws_toElem.mono : ∀ a0 a1 a2 k, LeO (laws_toElem.f k a0 a1 a2) (laws_toElem.f (k + 1) a0 a1 a2) := by
  intro a0 a1 a2 k
  unfold laws_toElem.f
  repeat' (with_reducible first | exact laws_toAttrS.mono _ _ | exact LeO.refl _ | exact LeO.none _ | refine LeO.ite ?_ ?_ | refine LeO.bind ?_ (fun _ => ?_))
set_option maxHeartbeats 8000000 in
set_option maxRecDepth 100000 in
theorem laws_toElem.calls (k : Nat) (a0_0 : ByteArray) (a0_1 : Int) (A0_2 : Option Addr) (c0_2 : Nat) (l0_2 : List (S84)) (r1 : ByteArray) (r2 : Int) (r3 : List (S78)) (w : World) (hr0_2 : Kd.C k84 w A0_2 l0_2.length l0_2) (hc0_2 : l0_2.length ≤ c0_2) (h : laws_toElem.f k a0_0 a0_1 l0_2 = some (r1, r2, r3)) :
    Calls Try.prog 22 #[.agg #[.string a0_0, .int .i64 a0_1, .slice A0_2 l0_2.length c0_2]] w fun e w' => ∃ v2_ : Value, e = .returned (.agg #[.string r1, .int .i64 r2, v2_]) ∧ Kd.R k78 78 w' w.heap.size (fun _ => True) v2_ r3 ∧ Below w.heap.size w w' := by
 have hu45 := Try.underlying45; have hu48 := Try.underlying48; have HR0_2 := a_ hr0_2; have HC0_2 := a_ hc0_2; clear hr0_2 hc0_2; have HB := a_ (Below.refl w.heap.size w); have H : ((laws_toAttrS.f k l0_2).bind fun t147 => (some (a0_0, a0_1, t147))) = some (r1, r2, r3) := h; clear h; replace H := Option.bind_eq_some_iff.mp H; obtain ⟨t147, A20, H⟩ := H; have A2 := a_ A20; clear A20; simp only [Option.some.injEq, Prod.mk.injEq] at H; obtain ⟨rfl, rfl, rfl⟩ := H; go_enter Try.func22, Try.ntmps22
 go_wp2_with (first | ((with_reducible refine gate_dst (N := 1) rfl ?_); refine box_event zr_ (N := 1) zr_ (cs := #[.string a0_0, .int .i64 a0_1, .slice A0_2 l0_2.length c0_2]) (t := 45) zs_ ?_; intro gb144 hg w3 hbox hb; have n0_ := a_ (below_step y0_ hb); have n1_ := a_ (hbox); have n2_ := a_ ((by rw [hg]; exact (below_size y0_) : w.heap.size ≤ gb144)); have n3_ := a_ ((by rw [hg]; exact (below_size y0_) : w.heap.size ≤ gb144)); clear HB; have HB := n0_; have BK144 := n1_; have GW144 := n2_; have GE144 := n3_; clear n0_ n1_ n2_ n3_; clear hb hbox hg) | ((with_reducible refine gate_dst (N := 2) rfl ?_); refine box_event zr_ (N := 2) zr_ (cs := #[.string (⟨#[]⟩ : ByteArray), .int .i64 0, .slice none 0 0]) (t := 48) zs_ ?_; intro gb145 hg w4 hbox hb; have n0_ := a_ (blk_below (g := gb144) (o := .cells #[.string a0_0, .int .i64 a0_1, .slice A0_2 l0_2.length c0_2] 45 (0, 0)) y47_ hb); have n1_ := a_ (below_step y95_ hb); have n2_ := a_ (hbox); have n3_ := a_ ((by rw [hg]; exact (below_size y95_) : w.heap.size ≤ gb145)); have n4_ := a_ ((by rw [hg]; exact (below_size y95_) : w.heap.size ≤ gb145)); have n5_ := a_ ((by rw [hg]; exact Nat.ne_of_lt (blk_lt (g := gb144) (o := .cells #[.string a0_0, .int .i64 a0_1, .slice A0_2 l0_2.length c0_2] 45 (0, 0)) y47_) : gb144 ≠ gb145)); have n6_ := a_ ((by rw [hg]; exact Nat.ne_of_gt (blk_lt (g := gb144) (o := .cells #[.string a0_0, .int .i64 a0_1, .slice A0_2 l0_2.length c0_2] 45 (0, 0)) y47_) : gb145 ≠ gb144)); clear BK144; clear HB; have BK144 := n0_; have HB := n1_; have BK145 := n2_; have GW145 := n3_; have GE145 := n4_; have NB144_145 := n5_; have NB145_144 := n6_; clear n0_ n1_ n2_ n3_ n4_ n5_ n6_; clear hb hbox hg) | ((with_reducible refine gate_dst (N := 3) rfl ?_); refine box_event zr_ (N := 3) zr_ (cs := #[.string (⟨#[]⟩ : ByteArray), .int .i64 0, .slice none 0 0]) (t := 48) zs_ ?_; intro gb146 hg w5 hbox hb; have n0_ := a_ (blk_below (g := gb144) (o := .cells #[.string a0_0, .int .i64 a0_1, .slice A0_2 l0_2.length c0_2] 45 (0, 0)) y47_ hb); have n1_ := a_ (blk_below (g := gb145) (o := .cells #[.string (⟨#[]⟩ : ByteArray), .int .i64 0, .slice none 0 0] 48 (0, 0)) y108_ hb); have n2_ := a_ (below_step y78_ hb); have n3_ := a_ (hbox); have n4_ := a_ ((by rw [hg]; exact (below_size y78_) : w.heap.size ≤ gb146)); have n5_ := a_ ((by rw [hg]; exact (below_size y78_) : w.heap.size ≤ gb146)); have n6_ := a_ ((by rw [hg]; exact Nat.ne_of_lt (blk_lt (g := gb144) (o := .cells #[.string a0_0, .int .i64 a0_1, .slice A0_2 l0_2.length c0_2] 45 (0, 0)) y47_) : gb144 ≠ gb146)); have n7_ := a_ ((by rw [hg]; exact Nat.ne_of_gt (blk_lt (g := gb144) (o := .cells #[.string a0_0, .int .i64 a0_1, .slice A0_2 l0_2.length c0_2] 45 (0, 0)) y47_) : gb146 ≠ gb144)); have n8_ := a_ ((by rw [hg]; exact Nat.ne_of_lt (blk_lt (g := gb145) (o := .cells #[.string (⟨#[]⟩ : ByteArray), .int .i64 0, .slice none 0 0] 48 (0, 0)) y108_) : gb145 ≠ gb146)); have n9_ := a_ ((by rw [hg]; exact Nat.ne_of_gt (blk_lt (g := gb145) (o := .cells #[.string (⟨#[]⟩ : ByteArray), .int .i64 0, .slice none 0 0] 48 (0, 0)) y108_) : gb146 ≠ gb145)); clear BK144; clear BK145; clear HB; have BK144 := n0_; have BK145 := n1_; have HB := n2_; have BK146 := n3_; have GW146 := n4_; have GE146 := n5_; have NB144_146 := n6_; have NB146_144 := n7_; have NB145_146 := n8_; have NB146_145 := n9_; clear n0_ n1_ n2_ n3_ n4_ n5_ n6_ n7_ n8_ n9_; clear hb hbox hg; have hnb6 := NB144_145.out; have hnc6 := NB145_144.out; have hnb7 := NB144_146.out; have hnc7 := NB146_144.out; have hcz8_0 : w5.cell? ⟨gb144, 0, none⟩ = some (.string a0_0) := (blk_cell BK144.out 0).trans rfl; have hcz8_1 : w5.cell? ⟨gb144, 1, none⟩ = some (.int .i64 a0_1) := (blk_cell BK144.out 1).trans rfl; have hcz8_2 : w5.cell? ⟨gb144, 2, none⟩ = some (.slice A0_2 l0_2.length c0_2) := (blk_cell BK144.out 2).trans rfl; have hfz8_0 := blk_frozen BK144.out 0; have hfz8_1 := blk_frozen BK144.out 1; have hfz8_2 := blk_frozen BK144.out 2; have hnb9 := NB146_145.out; have hnc9 := NB145_146.out; have hcz10_0 : w5.cell? ⟨gb146, 0, none⟩ = some (.string (⟨#[]⟩ : ByteArray)) := (blk_cell BK146.out 0).trans rfl; have hcz10_1 : w5.cell? ⟨gb146, 1, none⟩ = some (.int .i64 0) := (blk_cell BK146.out 1).trans rfl; have hcz10_2 : w5.cell? ⟨gb146, 2, none⟩ = some (.slice none 0 0) := (blk_cell BK146.out 2).trans rfl; have hfz10_0 := blk_frozen BK146.out 0; have hfz10_1 := blk_frozen BK146.out 1; have hfz10_2 := blk_frozen BK146.out 2) | ((with_reducible refine gate_callee (f := 47) rfl ?_); refine gc_ 47 12 Try.func47 #[.slice A0_2 l0_2.length c0_2] ?_; (with_reducible refine (laws_toAttrS.calls k _ _ l0_2 t147 _ ?side1 ?side2 A2.out).mono ?_); (case side1 => exact Kd.C_below HR0_2.out y39_); (case side2 => exact HC0_2.out); rintro e w11 ⟨v148, rfl, ho0, hb⟩; refine ⟨_, rfl, ?_⟩; have n0_ := a_ (Kd.R_lower ho0 (below_size y39_)); have n1_ := a_ (blk_below (g := gb144) (o := .cells #[.string a0_0, .int .i64 a0_1, .slice A0_2 l0_2.length c0_2] 45 (0, 0)) (by (with_reducible repeat (first | refine blk_drewN ?_ _ | refine blk_drew ?_ | refine blk_alloc ?_ _)); refine blk_far ?_ NB144_146.out _; (with_reducible repeat (first | refine blk_drewN ?_ _ | refine blk_drew ?_ | refine blk_alloc ?_ _)); refine blk_far ?_ NB144_146.out _; (with_reducible repeat (first | refine blk_drewN ?_ _ | refine blk_drew ?_ | refine blk_alloc ?_ _)); exact BK144.out) hb); have n2_ := a_ (blk_below (g := gb145) (o := .cells #[.string (⟨#[]⟩ : ByteArray), .int .i64 0, .slice none 0 0] 48 (0, 0)) (by (with_reducible repeat (first | refine blk_drewN ?_ _ | refine blk_drew ?_ | refine blk_alloc ?_ _)); refine blk_far ?_ NB145_146.out _; (with_reducible repeat (first | refine blk_drewN ?_ _ | refine blk_drew ?_ | refine blk_alloc ?_ _)); refine blk_far ?_ NB145_146.out _; (with_reducible repeat (first | refine blk_drewN ?_ _ | refine blk_drew ?_ | refine blk_alloc ?_ _)); exact BK145.out) hb); have n3_ := a_ (blk_below (g := gb146) (o := .cells #[.string a0_0, .int .i64 a0_1, .slice none 0 0] 48 (0, 0)) (by (with_reducible repeat (first | refine blk_drewN ?_ _ | refine blk_drew ?_ | refine blk_alloc ?_ _)); refine blk_put (cs := #[.string a0_0, .int .i64 0, .slice none 0 0]) ?_ 1 _ rfl; (with_reducible repeat (first | refine blk_drewN ?_ _ | refine blk_drew ?_ | refine blk_alloc ?_ _)); refine blk_put (cs := #[.string (⟨#[]⟩ : ByteArray), .int .i64 0, .slice none 0 0]) ?_ 0 _ rfl; (with_reducible repeat (first | refine blk_drewN ?_ _ | refine blk_drew ?_ | refine blk_alloc ?_ _)); exact BK146.out) hb); have n4_ := a_ (below_step y39_ hb); clear BK144; clear BK145; clear BK146; clear HB; have HO149 := n0_; have BK144 := n1_; have BK145 := n2_; have BK146 := n3_; have HB := n4_; clear n0_ n1_ n2_ n3_ n4_; (try clear hb); (try clear hb2); (try clear hk); (try clear hi); (try clear ho0); obtain ⟨Ao12, co12, eo12⟩ := Kd.R_slice HO149.out; subst eo12; have hcz13_0 : w11.cell? ⟨gb146, 0, none⟩ = some (.string a0_0) := (blk_cell BK146.out 0).trans rfl; have hcz13_1 : w11.cell? ⟨gb146, 1, none⟩ = some (.int .i64 a0_1) := (blk_cell BK146.out 1).trans rfl; have hcz13_2 : w11.cell? ⟨gb146, 2, none⟩ = some (.slice none 0 0) := (blk_cell BK146.out 2).trans rfl; have hfz13_0 := blk_frozen BK146.out 0; have hfz13_1 := blk_frozen BK146.out 1; have hfz13_2 := blk_frozen BK146.out 2; have hcz14_0 : w11.cell? ⟨gb145, 0, none⟩ = some (.string (⟨#[]⟩ : ByteArray)) := (blk_cell BK145.out 0).trans rfl; have hcz14_1 : w11.cell? ⟨gb145, 1, none⟩ = some (.int .i64 0) := (blk_cell BK145.out 1).trans rfl; have hcz14_2 : w11.cell? ⟨gb145, 2, none⟩ = some (.slice none 0 0) := (blk_cell BK145.out 2).trans rfl; have hfz14_0 := blk_frozen BK145.out 0; have hfz14_1 := blk_frozen BK145.out 1; have hfz14_2 := blk_frozen BK145.out 2))
 refine bodyPost_ret (results_cell_row rfl _ _ gb145 48 #[.string a0_0, .int .i64 a0_1, .slice Ao12 t147.length co12] (0, 0) _ rfl (by (with_reducible repeat (first | refine blk_drewN ?_ _ | refine blk_drew ?_ | refine blk_alloc ?_ _)); refine blk_put (cs := #[.string a0_0, .int .i64 a0_1, .slice none 0 0]) ?_ 2 _ rfl; (with_reducible repeat (first | refine blk_drewN ?_ _ | refine blk_drew ?_ | refine blk_alloc ?_ _)); refine blk_put (cs := #[.string a0_0, .int .i64 0, .slice none 0 0]) ?_ 1 _ rfl; (with_reducible repeat (first | refine blk_drewN ?_ _ | refine blk_drew ?_ | refine blk_alloc ?_ _)); refine blk_put (cs := #[.string (⟨#[]⟩ : ByteArray), .int .i64 0, .slice none 0 0]) ?_ 0 _ rfl; (with_reducible repeat (first | refine blk_drewN ?_ _ | refine blk_drew ?_ | refine blk_alloc ?_ _)); refine blk_far ?_ NB145_146.out _; (with_reducible repeat (first | refine blk_drewN ?_ _ | refine blk_drew ?_ | refine blk_alloc ?_ _)); exact BK145.out) Try.underlying48 rfl y35_) rfl ?_; exact ⟨_, y4_, by (with_reducible repeat (first | apply Kd.R_alloc | apply Kd.R_drewN | apply Kd.R_drew)); exact Kd.R_mono (Kd.R_far (p := ⟨gb145, 2, none⟩) (Kd.R_far (p := ⟨gb145, 1, none⟩) (Kd.R_far (p := ⟨gb145, 0, none⟩) (Kd.R_far (p := ⟨gb146, 2, none⟩) (Kd.R_types (Kd.R_types HO149.out BK146.out y49_) BK145.out y49_) (fun _ hk => hk.1.2) (.slice Ao12 t147.length co12)) (fun _ hk => hk.2) (.string a0_0)) (fun _ hk => hk.2) (.int .i64 a0_1)) (fun _ hk => hk.2) (.slice Ao12 t147.length co12)) (fun _ hk => trivial), y39_⟩

/-! ### laws_toElemS: function 8 -/
def laws_toElemS.l0 : Nat → List (S45) → List (S48) → Int → Option ((List (S48)))
  | 0, _, _, _ => none
  | k + 1, x0, x3, x4 => if x4 < (x0.length : Int) then (if 0 ≤ x4 then ((laws_toElem.f k ((rd_T45 x0 x4).f0) ((rd_T45 x0 x4).f1) ((rd_T45 x0 x4).f2)).bind fun bt154 => (if x4 < (x3.length : Int) then (laws_toElemS.l0 k x0 (x3.set (x4 : Int).toNat (⟨bt154.1, bt154.2.1, bt154.2.2⟩ : S48)) (wrap64 (x4 + 1))) else (none))) else (none)) else (some x3)
def laws_toElemS.f (k : Nat) (l0 : List (S45)) : Option ((List (S48))) := if 0 ≤ (l0.length : Int) then (if ((l0.length : Int) : Int).toNat ≤ 5864062014805 then (laws_toElemS.l0 k l0 (List.replicate ((l0.length : Int) : Int).toNat z48) 0) else (none)) else (none)
theorem laws_toElemS.mono_l : ∀ k, (∀ y0 y1 y2, LeO (laws_toElemS.l0 k y0 y1 y2) (laws_toElemS.l0 (k + 1) y0 y1 y2))
  | 0 => fun _ _ _ r h => by simp [laws_toElemS.l0] at h
  | k + 1 => by
    have ih0 := laws_toElemS.mono_l k
    · intro y0 y1 y2
      unfold laws_toElemS.l0
      repeat' (with_reducible first | exact ih0 _ _ _ | exact laws_toElem.mono _ _ _ _ | exact LeO.refl _ | exact LeO.none _ | refine LeO.ite ?_ ?_ | refine LeO.bind ?_ (fun _ => ?_))
theorem laws_toElemS.mono : ∀ a0 k, LeO (laws_toElemS.f k a0) (laws_toElemS.f (k + 1) a0) := by
  intro a0 k
  have ih0 := laws_toElemS.mono_l k
  unfold laws_toElemS.f
  repeat' (with_reducible first | exact ih0 _ _ _ | exact laws_toElem.mono _ _ _ _ | exact LeO.refl _ | exact LeO.none _ | refine LeO.ite ?_ ?_ | refine LeO.bind ?_ (fun _ => ?_))
set_option maxHeartbeats 8000000 in
set_option maxRecDepth 100000 in
theorem laws_toElemS.calls (k : Nat) (A0 : Option Addr) (c0 : Nat) (l0 : List (S45)) (r : List (S48)) (w : World) (hr0 : Kd.C k45 w A0 l0.length l0) (hc0 : l0.length ≤ c0) (h : laws_toElemS.f k l0 = some r) :
    Calls Try.prog 8 #[.slice A0 l0.length c0] w fun e w' => ∃ v0_ : Value, e = .returned (v0_) ∧ Kd.S k48 48 w' w.heap.size (fun _ => True) v0_ r ∧ Below w.heap.size w w' := by
 have hu45 := Try.underlying45; have hu48 := Try.underlying48; have HR0 := a_ hr0; have HC0 := a_ hc0; clear hr0 hc0; have HB := a_ (Below.refl w.heap.size w); have H : (if 0 ≤ (l0.length : Int) then (if ((l0.length : Int) : Int).toNat ≤ 5864062014805 then (laws_toElemS.l0 k l0 (List.replicate ((l0.length : Int) : Int).toNat z48) 0) else (none)) else (none)) = some r := h; clear h; by_cases cx0 : 0 ≤ (l0.length : Int)
 ·rw [if_pos cx0] at H; have cx0b0 := eq_true cx0; have cx0b1 : decide (0 ≤ (l0.length : Int)) = true := decide_eq_true cx0; clear cx0; by_cases cx1 : ((l0.length : Int) : Int).toNat ≤ 5864062014805
  ·rw [if_pos cx1] at H; have cx1b0 := eq_true cx1; have cx1b1 : decide (((l0.length : Int) : Int).toNat ≤ 5864062014805) = true := decide_eq_true cx1; clear cx1; obtain ⟨y150, hy_⟩ : ∃ y_ : List (S48), y_ = (List.replicate ((l0.length : Int) : Int).toNat z48) := ⟨_, rfl⟩; replace H : (laws_toElemS.l0 k l0 y150 0) = some r := z0_; have Ny150 := a_ hy_; clear hy_; have H' := a_ H; clear H; go_enter Try.func8, Try.ntmps8
   go_wp2_with (first | ((with_reducible refine gate_dst (N := 7) rfl ?_); refine Kd.S_make k48 _ 48 rfl (N := 7) rfl 25 _ _ rfl (l0.length : Int) rfl rfl Try.underlying25 (.agg #[(.string ⟨#[]⟩), (.int .i64 0), (.slice none 0 0)]) 48 info48 rfl y49_ (by omega) z48 (ok := fun _ => True) (okp := fun _ => True) (k48_mkM _ _ _ z48 (Kd.R_nil _ _ _ _ _)) (fun _ hk => hk) trivial (of_decide_eq_true y2_) (Nat.le_trans (Nat.mul_le_mul_right _ (of_decide_eq_true y2_ : (l0.length : Int).toNat ≤ 5864062014805)) (by omega)) (Below.refl _ _) (Nat.le_refl _) ?_; intro v151 w4 ho5 hb hg_ hnew_; clear hg_ hnew_; (first | rw [← Ny150.out] at ho5 | (simp only [Int.reduceToNat] at ho5; rw [← Ny150.out] at ho5)); have n0_ := a_ (Kd.S_lower ho5 (below_size y0_)); have n1_ := a_ (below_step y0_ hb); clear HB; have HO152 := n0_; have HB := n1_; clear n0_ n1_; clear hb ho5))
   go_loopg [4] k (fun kq v4 w' => ∃ (x3_1 : List (S48)) (x4_1 : Int), v4 = .int .i64 x4_1 ∧ Aside0 (laws_toElemS.l0 kq l0 x3_1 x4_1 = some r) ∧ Aside0 (kq ≤ k) ∧ Aside0 (Kd.S k48 48 w' w.heap.size (fun _ => True) v151 x3_1) ∧ Aside0 (Below w.heap.size w w'))
   case atStart => exact ⟨(y150), (0), y3_, H', ⟨Nat.le_refl _⟩, ⟨by (with_reducible repeat (first | apply Kd.S_alloc | apply Kd.S_drewN | apply Kd.S_drew)); exact HO152.out⟩, ⟨y0_⟩⟩
   case round =>
    clear H'; (try clear cx0); (try clear cx0b0); (try clear cx0b1); (try clear cx1); (try clear cx1b0); (try clear cx1b1); obtain ⟨x3_1, x4_1, rfl, HA, HK1, HO_3, HB⟩ := hrel; cases gk with
    | zero => exact absurd HA.out (by simp [laws_toElemS.l0])
    | succ k1 =>
     have H := HA.out; clear HA; simp only [laws_toElemS.l0] at H; by_cases cx2 : x4_1 < (l0.length : Int)
     ·rw [if_pos cx2] at H; have cx2b0 : decide (x4_1 < (l0.length : Int)) = true := decide_eq_true cx2; clear cx2; by_cases cx3 : 0 ≤ x4_1
      ·rw [if_pos cx3] at H; have cx3b0 : decide (0 ≤ x4_1) = true := decide_eq_true cx3; clear cx3; replace H := Option.bind_eq_some_iff.mp H; obtain ⟨⟨t154, t155, t156⟩, A80, H⟩ := H; replace H : (if x4_1 < (x3_1.length : Int) then (laws_toElemS.l0 k1 l0 (x3_1.set (x4_1 : Int).toNat (⟨t154, t155, t156⟩ : S48)) (wrap64 (x4_1 + 1))) else (none)) = some r := H; have A8 := a_ A80; clear A80; by_cases cx4 : x4_1 < (x3_1.length : Int)
       ·rw [if_pos cx4] at H; have cx4b0 : decide (x4_1 < (x3_1.length : Int)) = true := decide_eq_true cx4; clear cx4; obtain ⟨y159, hy_⟩ : ∃ y_ : List (S48), y_ = (x3_1.set (x4_1 : Int).toNat (⟨t154, t155, t156⟩ : S48)) := ⟨_, rfl⟩; replace H : (laws_toElemS.l0 k1 l0 y159 (wrap64 (x4_1 + 1))) = some r := z0_; have Ny159 := a_ hy_; clear hy_; have H' := a_ H; clear H; have p153 : 0 ≤ (x4_1 : Int) := of_decide_eq_true y2_; have q153 : x4_1 < (l0.length : Int) := of_decide_eq_true y2_; obtain ⟨ad153, A153_2, c153_2, e153, hx153_0, hx153_1, hx153_2, hl153_2, hi153_2⟩ := at_T45 HR0.out x4_1 p153 q153; cases e153; replace hx153_0 := cT_ HB.out hx153_0; replace hx153_1 := cT_ HB.out hx153_1; replace hx153_2 := cT_ HB.out hx153_2; have HR153_2 := a_ hi153_2; have HC153_2 := a_ hl153_2; clear hi153_2 hl153_2; replace p153 := eq_true p153; replace q153 := eq_true q153
        go_wp2_with (first | ((with_reducible refine gate_callee (f := 22) rfl ?_); refine gc_ 22 20 Try.func22 #[.agg #[.string ((rd_T45 l0 x4_1).f0), .int .i64 ((rd_T45 l0 x4_1).f1), .slice A153_2 ((rd_T45 l0 x4_1).f2).length c153_2]] ?_; (with_reducible refine (laws_toElem.calls k1 ((rd_T45 l0 x4_1).f0) ((rd_T45 l0 x4_1).f1) _ _ ((rd_T45 l0 x4_1).f2) t154 t155 t156 _ ?side1 ?side2 A8.out).mono ?_); (case side1 => repeat (first | exact (Kd.C_below HR153_2.out HB.out) | (with_reducible refine Kd.C_alloc ?_ _) | (with_reducible refine Kd.C_drewN ?_ _) | (with_reducible refine Kd.C_drew ?_))); (case side2 => exact HC153_2.out); rintro e w11 ⟨v157, rfl, ho0, hb⟩; refine ⟨_, rfl, ?_⟩; have n0_ := a_ (Kd.S_elder' y114_ (Kd.R_base ho0) hb); have n1_ := a_ (Kd.R_lower ho0 (below_size y0_)); have n2_ := a_ (below_step y0_ hb); clear HO_3; clear HB; have HO_3 := n0_; have HO158 := n1_; have HB := n2_; clear n0_ n1_ n2_; (try clear hb); (try clear hb2); (try clear hk); (try clear hi); (try clear ho0); have p10 : 0 ≤ (x4_1 : Int) := of_decide_eq_true y2_; have q10 : (x4_1 : Int) < ((x3_1.length : Int) : Int) := of_decide_eq_true y2_; obtain ⟨go10, co10, eo10, gb10, gl10, cl10, HG10⟩ := Kd.S_form HO_3.out (by omega); (first | cases eo10 | (injection eo10 with ea_ en_ ec_; (first | subst ea_ | (injection ea_ with ea_; subst ea_)); subst ec_; clear en_)); have GB10 := a_ gb10; have GG10 := a_ HG10; clear gb10 gl10 HG10; obtain ⟨_, ce10, hcl10, hM10, hcc10, hfr10, _, _⟩ := Kd.S_elem HO_3.out z48 (x4_1 : Int) p10 q10; obtain ⟨ve10_2, rfl, ge10_2⟩ := k48_openM hM10; have hx10_0 : w11.cell? ⟨go10, (x4_1 : Int).toNat * 3, none⟩ = some (.string ((rd_T48 x3_1 x4_1).f0)) := hcc10 0 _ rfl; have hx10_1 : w11.cell? ⟨go10, (x4_1 : Int).toNat * 3 + 1, none⟩ = some (.int .i64 ((rd_T48 x3_1 x4_1).f1)) := hcc10 1 _ rfl; have hx10_2 : w11.cell? ⟨go10, (x4_1 : Int).toNat * 3 + 2, none⟩ = some (ve10_2) := hcc10 2 _ rfl; have hf10_0 : w11.frozen? ⟨go10, (x4_1 : Int).toNat * 3, none⟩ = false := hfr10 0; have hf10_1 : w11.frozen? ⟨go10, (x4_1 : Int).toNat * 3 + 1, none⟩ = false := hfr10 1; have hf10_2 : w11.frozen? ⟨go10, (x4_1 : Int).toNat * 3 + 2, none⟩ = false := hfr10 2; clear hcl10 hcc10 hfr10 hM10; replace p10 := eq_true p10; replace q10 := eq_true q10; obtain ⟨Ao12, co12, eo12⟩ := Kd.R_slice HO158.out; subst eo12; have n_ := a_ (Kd.S_mono (ok' := (fun k_ => some k_ ≠ (.slice Ao12 t156.length co12 : Value).ownBlock)) HO_3.out (fun k_ hk => hk.2)); clear HO_3; have HO_3 := n_; clear n_; have HX13 := a_ (show Kd.S k48 48 w11 w.heap.size (fun k_ => ((fun _ => True)) k_ ∧ ¬ ((fun k_ => some k_ = (.slice Ao12 t156.length co12 : Value).ownBlock)) k_) (.slice (some ⟨go10, 0, none⟩) x3_1.length co10) x3_1 from (by (with_reducible repeat (first | apply Kd.S_alloc | apply Kd.S_drewN | apply Kd.S_drew)); exact Kd.S_mono HO_3.out (fun k_ hk => ⟨trivial, fun e_ => hk e_⟩))); obtain ⟨oki13, ce13, hcl13, hM13, hcc13, hfr13, hoki13, hH13⟩ := Kd.S_elem HX13.out z48 (x4_1 : Int) (of_decide_eq_true y2_) (by have h_ : (x4_1 : Int) < ((x3_1.length : Int) : Int) := of_decide_eq_true y2_; first | exact h_ | (have e_ := (Kd.S_reads' HO_3.out).1; omega) | simpa using h_); obtain ⟨ve13_2, rfl, ge13_2⟩ := k48_openM hM13; have HP13 := Kd.S_seg hH13 (of_decide_eq_true y2_) (by have h_ : (x4_1 : Int) < ((x3_1.length : Int) : Int) := of_decide_eq_true y2_; first | exact h_ | (have e_ := (Kd.S_reads' HO_3.out).1; omega) | simpa using h_) (seg := [.string t154, .int .i64 t155, .slice Ao12 t156.length co12]) (j := 0) (show 3 ≤ 3 from by decide) (x' := (⟨t154, t155, t156⟩ : S48)) (k48_mkM _ _ _ (⟨t154, t155, t156⟩ : S48) (Kd.R_mono (Kd.R_tight rfl (Kd.R_mono (ok' := fun k_ => ((fun _ => True)) k_ ∧ k_ ≠ go10) (Kd.R_apart' (HO158.out) (Kd.S_typed HO_3.out) y49_) (fun k_ hk => ⟨trivial, fun e_ => (hk.2) (by rw [e_]; rfl)⟩))) (fun _ h_ => Or.inr (h_)))) (fun _ hk => hk) (fun k_ hk_ => ((Kd.R_mono (ok' := fun k_ => ((fun _ => True)) k_ ∧ k_ ≠ go10) (Kd.R_apart' (HO158.out) (Kd.S_typed HO_3.out) y49_) (fun k_ hk => ⟨trivial, fun e_ => (hk.2) (by rw [e_]; rfl)⟩))).1 k_ hk_.symm); have hx13_0 := hcc13 0 _ rfl; (try simp only [show (k48).sz = 3 from rfl, Nat.mul_one, Nat.add_zero] at hx13_0); have hf13_0 := hfr13 0; (try simp only [show (k48).sz = 3 from rfl, Nat.mul_one, Nat.add_zero] at hf13_0); have hx13_1 := hcc13 1 _ rfl; (try simp only [show (k48).sz = 3 from rfl, Nat.mul_one, Nat.add_zero] at hx13_1); have hf13_1 := hfr13 1; (try simp only [show (k48).sz = 3 from rfl, Nat.mul_one, Nat.add_zero] at hf13_1); have hx13_2 := hcc13 2 _ rfl; (try simp only [show (k48).sz = 3 from rfl, Nat.mul_one, Nat.add_zero] at hx13_2); have hf13_2 := hfr13 2; (try simp only [show (k48).sz = 3 from rfl, Nat.mul_one, Nat.add_zero] at hf13_2); clear hcl13 hcc13 hfr13 hM13 hoki13 hH13) | ((with_reducible refine gate_store (t := 48) (p := 21) rfl ?_); refine store_event (t := 48) (p := 21) (v := ?vo_w14) (w1 := (((w11.setCell ⟨go10, (x4_1 : Int).toNat * 3, none⟩ (.string t154)).setCell ⟨go10, (x4_1 : Int).toNat * 3 + 1, none⟩ (.int .i64 t155)).setCell ⟨go10, (x4_1 : Int).toNat * 3 + 2, none⟩ (.slice Ao12 t156.length co12))) ?hg ?ho ?hn ?hr ?_; (case ho => rfl); (case hg => rfl); (case hn => rfl); (case hr => first | (go_simp; done) | (go_simp; rfl)); intro w14 hw; have hg : w11.grownBy w14 (some go10) := (by rw [hw]; exact HP13.2); have hp_ : Kd.S k48 48 w14 w.heap.size (fun _ => True) (.slice (some ⟨go10, 0, none⟩) x3_1.length co10) y159 := (by rw [hw, Ny159.out]; exact HP13.1); clear HP13; have n0_ := a_ (hp_); have n1_ := a_ ((by rw [hw]; exact below_set (below_set (below_set (HB.out) GB10.out) GB10.out) GB10.out : Below w.heap.size w w14)); clear HO_3; clear HB; clear HO158; have HO_3 := n0_; have HB := n1_; clear n0_ n1_; clear hg hw hp_))
        go_roundg k1
        case measure => have := HK1.out; omega
        case rel => exact ⟨(y159), (wrap64 (x4_1 + 1)), y3_, H', ⟨y48_⟩, ⟨y114_⟩, ⟨y0_⟩⟩
       ·rw [if_neg cx4] at H; exact absurd H y100_
      ·rw [if_neg cx3] at H; exact absurd H y100_
     ·rw [if_neg cx2] at H; have cx2b0 : decide (x4_1 < (l0.length : Int)) = false := decide_eq_false cx2; clear cx2; obtain rfl := Option.some.inj H; go_wp2
      go_ret
      exact ⟨_, y4_, y114_, y0_⟩
  ·rw [if_neg cx1] at H; exact absurd H y100_
 ·rw [if_neg cx0] at H; exact absurd H y100_

/-! ### impl_inRange: function 23 -/
def impl_inRange.f (a0 : Int) (a1 : Int) (a2 : Int) : Option (Bool) := if a1 ≤ a0 then (some (decide (a0 ≤ a2))) else (some false)
set_option maxHeartbeats 8000000 in
set_option maxRecDepth 100000 in
theorem impl_inRange.calls (a0 : Int) (a1 : Int) (a2 : Int) (r : Bool) (w : World) (h : impl_inRange.f a0 a1 a2 = some r) :
    Calls Try.prog 23 #[.int .i64 a0, .int .i64 a1, .int .i64 a2] w fun e w' => e = .returned (.bool r) ∧ Drawn0 w w' := by
 have H : (if a1 ≤ a0 then (some (decide (a0 ≤ a2))) else (some false)) = some r := h; clear h; by_cases c4 : a1 ≤ a0
 ·rw [if_pos c4] at H; have c4b0 : decide (a1 ≤ a0) = true := decide_eq_true c4; clear c4; obtain rfl := Option.some.inj H; go_enter Try.func23, Try.ntmps23
  go_wp2
  go_ret
  exact ⟨y3_, y6_⟩
 ·rw [if_neg c4] at H; have c4b0 : decide (a1 ≤ a0) = false := decide_eq_false c4; clear c4; obtain rfl := Option.some.inj H; go_enter Try.func23, Try.ntmps23
  go_wp2
  go_ret
  exact ⟨y3_, y6_⟩

/-! ### impl_firstCode: function 24 -/
def impl_firstCode.l0 : Nat → List Int → Int → Int → Option (Int)
  | 0, _, _, _ => none
  | k + 1, x5, x6, x7 => if x7 < x6 then (if 0 ≤ x7 then (if x7 < (x5.length : Int) then (if (rd x5 x7) = 0 then (impl_firstCode.l0 k x5 x6 (wrap64 (x7 + 1))) else (some (rd x5 x7))) else (none)) else (none)) else (some 0)
def impl_firstCode.f (k : Nat) (l0 : List Int) : Option (Int) := impl_firstCode.l0 k l0 (l0.length : Int) 0
theorem impl_firstCode.mono_l : ∀ k, (∀ y0 y1 y2, LeO (impl_firstCode.l0 k y0 y1 y2) (impl_firstCode.l0 (k + 1) y0 y1 y2))
  | 0 => fun _ _ _ r h => by simp [impl_firstCode.l0] at h
  | k + 1 => by
    have ih0 := impl_firstCode.mono_l k
    · intro y0 y1 y2
      unfold impl_firstCode.l0
      repeat' (with_reducible first | exact ih0 _ _ _ | exact LeO.refl _ | exact LeO.none _ | refine LeO.ite ?_ ?_ | refine LeO.bind ?_ (fun _ => ?_))
theorem impl_firstCode.mono : ∀ a0 k, LeO (impl_firstCode.f k a0) (impl_firstCode.f (k + 1) a0) := by
  intro a0 k
  have ih0 := impl_firstCode.mono_l k
  unfold impl_firstCode.f
  repeat' (with_reducible first | exact ih0 _ _ _ | exact LeO.refl _ | exact LeO.none _ | refine LeO.ite ?_ ?_ | refine LeO.bind ?_ (fun _ => ?_))
set_option maxHeartbeats 8000000 in
set_option maxRecDepth 100000 in
theorem impl_firstCode.calls (k : Nat) (A0 : Option Addr) (c0 : Nat) (l0 : List Int) (r : Int) (w : World) (hr0 : Kd.C (Kd.int .i64) w A0 l0.length l0) (hc0 : l0.length ≤ c0) (h : impl_firstCode.f k l0 = some r) :
    Calls Try.prog 24 #[.slice A0 l0.length c0] w fun e w' => e = .returned (.int .i64 r) ∧ Drawn0 w w' := by
 have HR0 := a_ hr0; have HC0 := a_ hc0; clear hr0 hc0; have H : (impl_firstCode.l0 k l0 (l0.length : Int) 0) = some r := h; clear h; have H' := a_ H; clear H; go_enter Try.func24, Try.ntmps24
 go_wp2
 go_loopg [7] k (fun kq v7 w' => ∃ (x7_1 : Int), v7 = .int .i64 x7_1 ∧ Aside0 (impl_firstCode.l0 kq l0 (l0.length : Int) x7_1 = some r) ∧ Aside0 (kq ≤ k) ∧ Drawn0 w w')
 case atStart => exact ⟨(0), y3_, H', ⟨Nat.le_refl _⟩, y6_⟩
 case round =>
  clear H'; obtain ⟨x7_1, rfl, HA, HK1, ⟨m1, rfl⟩⟩ := hrel; cases gk with
  | zero => exact absurd HA.out (by simp [impl_firstCode.l0])
  | succ k1 =>
   have H := HA.out; clear HA; simp only [impl_firstCode.l0] at H; by_cases cx0 : x7_1 < (l0.length : Int); rw [if_pos cx0] at H; have cx0b0 : decide (x7_1 < (l0.length : Int)) = true := decide_eq_true cx0; clear cx0; by_cases cx1 : 0 ≤ x7_1; rw [if_pos cx1] at H; have cx1b0 : decide (0 ≤ x7_1) = true := decide_eq_true cx1; clear cx1; by_cases cx2 : x7_1 < (l0.length : Int); rw [if_pos cx2] at H; have cx2b0 : decide (x7_1 < (l0.length : Int)) = true := decide_eq_true cx2; clear cx2; by_cases cx3 : (rd l0 x7_1) = 0; rw [if_pos cx3] at H; have cx3b0 : ((rd l0 x7_1) == 0) = true := beq_iff_eq.mpr cx3; have cx3b1 : ((rd l0 x7_1) != 0) = false := bne_eq_false_iff_eq.mpr cx3; clear cx3; have H' := a_ H; clear H; have m0_0 := t_; have m0_1 := t_; rotate_left; rw [if_neg cx3] at H; have cx3b0 : ((rd l0 x7_1) == 0) = false := beq_eq_false_iff_ne.mpr cx3; have cx3b1 : ((rd l0 x7_1) != 0) = true := bne_iff_ne.mpr cx3; obtain rfl := Option.some.inj H; have m0_0 := t_; have m0_2 := t_; rotate_left
   ·rw [if_neg cx2] at H; exact absurd H y100_
   ·rw [if_neg cx1] at H; exact absurd H y100_
   rw [if_neg cx0] at H; have cx0b0 : decide (x7_1 < (l0.length : Int)) = false := decide_eq_false cx0; clear cx0; obtain rfl := Option.some.inj H; have m0_3 := t_; rotate_left
   all_goals (
    first
    | fail_if_success clear m0_0
    |(clear m0_0; have p9922068 : 0 ≤ (x7_1 : Int) := of_decide_eq_true y2_; have q9922068 : x7_1 < (l0.length : Int) := of_decide_eq_true y2_; obtain ⟨ad9922068, e9922068, hx9922068_0⟩ := Kd.at_int HR0.out x7_1 p9922068 q9922068; cases e9922068; replace p9922068 := eq_true p9922068; replace q9922068 := eq_true q9922068; go_wp2)
    first
    | fail_if_success clear m0_1
    |(clear m0_1; go_roundg k1
      case measure => have := HK1.out; omega
      case rel => exact ⟨(wrap64 (x7_1 + 1)), y3_, H', ⟨y48_⟩, y6_⟩)
    first
    | fail_if_success clear m0_2
    |(clear m0_2; go_ret
      exact ⟨y3_, y6_⟩)
    first
    | fail_if_success clear m0_3
    |(clear m0_3; go_wp2
      go_ret
      exact ⟨y3_, y6_⟩))

/-! ### impl_codeIf: function 27 -/
def impl_codeIf.f (a0 : Bool) (a1 : Int) : Option (Int) := if a0 = true then (some a1) else (some 0)
set_option maxHeartbeats 8000000 in
set_option maxRecDepth 100000 in
theorem impl_codeIf.calls (a0 : Bool) (a1 : Int) (r : Int) (w : World) (h : impl_codeIf.f a0 a1 = some r) :
    Calls Try.prog 27 #[.bool a0, .int .i64 a1] w fun e w' => e = .returned (.int .i64 r) ∧ Drawn0 w w' := by
 have H : (if a0 = true then (some a1) else (some 0)) = some r := h; clear h; by_cases c3 : a0 = true
 ·subst c3; rw [if_pos rfl] at H; obtain rfl := Option.some.inj H; go_enter Try.func27, Try.ntmps27
  go_wp2
  go_ret
  exact ⟨y3_, y6_⟩
 ·replace c3 := Bool.eq_false_iff.mpr c3; subst c3; rw [if_neg (show ¬ (false = true) by decide)] at H; obtain rfl := Option.some.inj H; go_enter Try.func27, Try.ntmps27
  go_wp2
  go_ret
  exact ⟨y3_, y6_⟩

/-! ### impl_isSmall: function 49 -/
def impl_isSmall.f (a0 : Int) : Option (Bool) := if a0 ≥ 97 then (some (decide (a0 ≤ 122))) else (some false)
set_option maxHeartbeats 8000000 in
set_option maxRecDepth 100000 in
theorem impl_isSmall.calls (a0 : Int) (r : Bool) (w : World) (h : impl_isSmall.f a0 = some r) :
    Calls Try.prog 49 #[.int .u8 a0] w fun e w' => e = .returned (.bool r) ∧ Drawn0 w w' := by
 have H : (if a0 ≥ 97 then (some (decide (a0 ≤ 122))) else (some false)) = some r := h; clear h; by_cases c2 : a0 ≥ 97
 ·rw [if_pos c2] at H; have c2b0 : decide (97 ≤ a0) = true := decide_eq_true c2; clear c2; obtain rfl := Option.some.inj H; go_enter Try.func49, Try.ntmps49
  go_wp2
  go_ret
  exact ⟨y3_, y6_⟩
 ·rw [if_neg c2] at H; have c2b0 : decide (97 ≤ a0) = false := decide_eq_false c2; clear c2; obtain rfl := Option.some.inj H; go_enter Try.func49, Try.ntmps49
  go_wp2
  go_ret
  exact ⟨y3_, y6_⟩

/-! ### impl_areAll__impl_isSmall: function 79 -/
def impl_areAll__impl_isSmall.l0 : Nat → ByteArray → Int → Int → Option (Bool)
  | 0, _, _, _ => none
  | k + 1, x0, x7, x8 => if x8 < x7 then (if 0 ≤ x8 then (if x8 < (x0.size : Int) then ((impl_isSmall.f (bt x0 x8)).bind fun t161 => (if t161 = true then (impl_areAll__impl_isSmall.l0 k x0 x7 (wrap64 (x8 + 1))) else (some false))) else (none)) else (none)) else (some true)
def impl_areAll__impl_isSmall.f (k : Nat) (a0 : ByteArray)  : Option (Bool) := impl_areAll__impl_isSmall.l0 k a0 (a0.size : Int) 0
theorem impl_areAll__impl_isSmall.mono_l : ∀ k, (∀ y0 y1 y2, LeO (impl_areAll__impl_isSmall.l0 k y0 y1 y2) (impl_areAll__impl_isSmall.l0 (k + 1) y0 y1 y2))
  | 0 => fun _ _ _ r h => by simp [impl_areAll__impl_isSmall.l0] at h
  | k + 1 => by
    have ih0 := impl_areAll__impl_isSmall.mono_l k
    · intro y0 y1 y2
      unfold impl_areAll__impl_isSmall.l0
      repeat' (with_reducible first | exact ih0 _ _ _ | exact LeO.refl _ | exact LeO.none _ | refine LeO.ite ?_ ?_ | refine LeO.bind ?_ (fun _ => ?_))
theorem impl_areAll__impl_isSmall.mono : ∀ a0 k, LeO (impl_areAll__impl_isSmall.f k a0) (impl_areAll__impl_isSmall.f (k + 1) a0) := by
  intro a0 k
  have ih0 := impl_areAll__impl_isSmall.mono_l k
  unfold impl_areAll__impl_isSmall.f
  repeat' (with_reducible first | exact ih0 _ _ _ | exact LeO.refl _ | exact LeO.none _ | refine LeO.ite ?_ ?_ | refine LeO.bind ?_ (fun _ => ?_))
set_option maxHeartbeats 8000000 in
set_option maxRecDepth 100000 in
theorem impl_areAll__impl_isSmall.calls (k : Nat) (a0 : ByteArray)  (r : Bool) (w : World) (h : impl_areAll__impl_isSmall.f k a0 = some r) :
    Calls Try.prog 48 #[.string a0, .func (.func 49) #[] #[]] w fun e w' => e = .returned (.bool r) ∧ Drawn0 w w' := by
 have H : (impl_areAll__impl_isSmall.l0 k a0 (a0.size : Int) 0) = some r := h; clear h; have H' := a_ H; clear H; go_enter Try.func48, Try.ntmps48
 go_wp2
 go_loopg [8] k (fun kq v8 w' => ∃ (x8_1 : Int), v8 = .int .i64 x8_1 ∧ Aside0 (impl_areAll__impl_isSmall.l0 kq a0 (a0.size : Int) x8_1 = some r) ∧ Aside0 (kq ≤ k) ∧ Drawn0 w w')
 case atStart => exact ⟨(0), y3_, H', ⟨Nat.le_refl _⟩, y6_⟩
 case round =>
  clear H'; obtain ⟨x8_1, rfl, HA, HK1, ⟨m1, rfl⟩⟩ := hrel; cases gk with
  | zero => exact absurd HA.out (by simp [impl_areAll__impl_isSmall.l0])
  | succ k1 =>
   have H := HA.out; clear HA; simp only [impl_areAll__impl_isSmall.l0] at H; by_cases cx0 : x8_1 < (a0.size : Int); rw [if_pos cx0] at H; have cx0b0 : decide (x8_1 < (a0.size : Int)) = true := decide_eq_true cx0; clear cx0; by_cases cx1 : 0 ≤ x8_1; rw [if_pos cx1] at H; have cx1b0 : decide (0 ≤ x8_1) = true := decide_eq_true cx1; clear cx1; by_cases cx2 : x8_1 < (a0.size : Int); rw [if_pos cx2] at H; have cx2b0 : decide (x8_1 < (a0.size : Int)) = true := decide_eq_true cx2; clear cx2; replace H := Option.bind_eq_some_iff.mp H; obtain ⟨tx3, Ay3, H⟩ := H; have Ax3 := a_ Ay3; clear Ay3; by_cases cx4 : tx3 = true; subst cx4; rw [if_pos rfl] at H; have H' := a_ H; clear H; have m0_0 := t_; have m0_1 := t_; rotate_left; replace cx4 := Bool.eq_false_iff.mpr cx4; subst cx4; rw [if_neg (show ¬ (false = true) by decide)] at H; obtain rfl := Option.some.inj H; have m0_0 := t_; have m0_2 := t_; rotate_left
   ·rw [if_neg cx2] at H; exact absurd H y100_
   ·rw [if_neg cx1] at H; exact absurd H y100_
   rw [if_neg cx0] at H; have cx0b0 : decide (x8_1 < (a0.size : Int)) = false := decide_eq_false cx0; clear cx0; obtain rfl := Option.some.inj H; have m0_3 := t_; rotate_left
   all_goals (
    first
    | fail_if_success clear m0_0
    |(clear m0_0; have p9922068 : 0 ≤ (x8_1 : Int) := of_decide_eq_true y2_; have q9922068 : x8_1 < (a0.size : Int) := of_decide_eq_true y2_; have hx9922068 := bt_at a0 x8_1; replace p9922068 := eq_true p9922068; replace q9922068 := eq_true q9922068; go_wp2_with (first | ((with_reducible refine gate_dyn (t := 11) rfl ?_); refine goesV_ (some 15) rfl rfl Try.func49 y35_ rfl #[.int .u8 (bt a0 x8_1)] rfl (by (try simp only [List.map_toArray, List.map_cons, List.map_nil]); first | done | rfl | (simp only [List.length_drop, List.length_take]; rfl) | (go_simp; done) | (simp [Act.eval, bne]; done)) ?_; (with_reducible refine (impl_isSmall.calls (bt a0 x8_1) _ _ Ax3.out).mono ?_); rintro e w' ⟨rfl, ⟨nd, rfl⟩⟩; refine ⟨_, rfl, ?_⟩)))
    first
    | fail_if_success clear m0_1
    |(clear m0_1; go_roundg k1
      case measure => have := HK1.out; omega
      case rel => exact ⟨(wrap64 (x8_1 + 1)), y3_, H', ⟨y48_⟩, y6_⟩)
    first
    | fail_if_success clear m0_2
    |(clear m0_2; go_ret
      exact ⟨y3_, y6_⟩)
    first
    | fail_if_success clear m0_3
    |(clear m0_3; go_wp2
      go_ret
      exact ⟨y3_, y6_⟩))

end Go.Proofs.Ytbjakfnfjndccaa.T
