-- Written by a program of this session's own (xp.py) for this seat.
import Derived.Test.YthoamjobclfjjaaGreatRZ
import Derived.Test.YthoamjobclfjjaaGreatR0
import Derived.Test.YthoamjobclfjjaaGreatR1
namespace Go.Proofs.YthoamjobclfjjaaGreat.R
open Go.RowKit Go.Proofs.YthoamjobclfjjaaGreatW.PrintWords Go.Proofs.YthoamjobclfjjaaGreatW.PrintLast Go.Proofs.YthoamjobclfjjaaGreatW.PrintMore
attribute [local go_sem] Instr.field asAgg
attribute [local go_sem] max2_int min2_int max_two min_two max_three min_three max_four min_four   -- for this text's walks alone
set_option linter.unusedVariables false
set_option linter.unusedSimpArgs false

/-! ### spec_l2Fault: function 11 -/
mutual
def spec_l2Fault.j0 : Nat → List (S40) → Bool → Option (Int)
  | 0, _, _ => none
  | k + 1, x0, x14 => if x14 = true then (some 2) else (spec_l2Fault.l0 k x0 0)
def spec_l2Fault.l0 : Nat → List (S40) → Int → Option (Int)
  | 0, _, _ => none
  | k + 1, x0, x3 => if x3 < (x0.length : Int) then (if 0 ≤ x3 then ((spec_l1Name.f k ((rd_T40 x0 x3).f0)).bind fun t125 => (if t125 = 0 then (if x3 = 0 then (if ((rd_T40 x0 x3).f1) = (-1) then (if x3 > 0 then ((spec_l1In.f ((rd_T40 x0 x3).f1) 0 (wrap64 (x3 - 1))).bind fun t126 => (spec_l2Fault.j2 k x0 x3 (!t126))) else (spec_l2Fault.j2 k x0 x3 false)) else (spec_l2Fault.j2 k x0 x3 true)) else (if x3 > 0 then ((spec_l1In.f ((rd_T40 x0 x3).f1) 0 (wrap64 (x3 - 1))).bind fun t127 => (spec_l2Fault.j2 k x0 x3 (!t127))) else (spec_l2Fault.j2 k x0 x3 false))) else (some t125))) else (none)) else (some 0)
def spec_l2Fault.j2 : Nat → List (S40) → Int → Bool → Option (Int)
  | 0, _, _, _ => none
  | k + 1, x0, x3, x54 => if x54 = true then (some 3) else (if x3 > 0 then ((spec_l2Line.f k x0 x3).bind fun t128 => (spec_l2Fault.j3 k x0 x3 (!t128))) else (spec_l2Fault.j3 k x0 x3 false))
def spec_l2Fault.j3 : Nat → List (S40) → Int → Bool → Option (Int)
  | 0, _, _, _ => none
  | k + 1, x0, x3, x62 => if x62 = true then (some 1) else ((spec_l2Deep.f k x0 x3).bind fun t129 => (if t129 > 8 then (spec_l2Fault.j4 k x0 x3 true) else (if 0 ≤ x3 then (if x3 < (x0.length : Int) then (spec_l2Fault.j4 k x0 x3 (decide ((((rd_T40 x0 x3).f2).length : Int) > 6))) else (none)) else (none))))
def spec_l2Fault.j4 : Nat → List (S40) → Int → Bool → Option (Int)
  | 0, _, _, _ => none
  | k + 1, x0, x3, x74 => if x74 = true then (some 2) else (if 0 ≤ x3 then (if x3 < (x0.length : Int) then ((spec_l2Attrs.f k ((rd_T40 x0 x3).f2)).bind fun t132 => (if t132 = 0 then (spec_l2Fault.l0 k x0 (wrap64 (x3 + 1))) else (some t132))) else (none)) else (none))
end
def spec_l2Fault.f (k : Nat) (l0 : List (S40)) : Option (Int) := if (l0.length : Int) < 1 then (spec_l2Fault.j0 k l0 true) else (spec_l2Fault.j0 k l0 (decide ((l0.length : Int) > 40)))
theorem spec_l2Fault.mono_l : ∀ k, (∀ y0 y1, LeO (spec_l2Fault.j0 k y0 y1) (spec_l2Fault.j0 (k + 1) y0 y1)) ∧ (∀ y0 y1, LeO (spec_l2Fault.l0 k y0 y1) (spec_l2Fault.l0 (k + 1) y0 y1)) ∧ (∀ y0 y1 y2, LeO (spec_l2Fault.j2 k y0 y1 y2) (spec_l2Fault.j2 (k + 1) y0 y1 y2)) ∧ (∀ y0 y1 y2, LeO (spec_l2Fault.j3 k y0 y1 y2) (spec_l2Fault.j3 (k + 1) y0 y1 y2)) ∧ (∀ y0 y1 y2, LeO (spec_l2Fault.j4 k y0 y1 y2) (spec_l2Fault.j4 (k + 1) y0 y1 y2))
  | 0 => ⟨fun _ _ r h => by simp [spec_l2Fault.j0] at h, fun _ _ r h => by simp [spec_l2Fault.l0] at h, fun _ _ _ r h => by simp [spec_l2Fault.j2] at h, fun _ _ _ r h => by simp [spec_l2Fault.j3] at h, fun _ _ _ r h => by simp [spec_l2Fault.j4] at h⟩
  | k + 1 => by
    obtain ⟨ih0, ih1, ih2, ih3, ih4⟩ := spec_l2Fault.mono_l k
    refine ⟨?_, ?_, ?_, ?_, ?_⟩
    · intro y0 y1
      unfold spec_l2Fault.j0
      repeat' (with_reducible first | exact ih0 _ _ | exact ih1 _ _ | exact ih2 _ _ _ | exact ih3 _ _ _ | exact ih4 _ _ _ | exact spec_l1Name.mono _ _ | exact spec_l2Attrs.mono _ _ | exact spec_l2Deep.mono _ _ _ | exact spec_l2Line.mono _ _ _ | exact LeO.refl _ | exact LeO.none _ | refine LeO.ite ?_ ?_ | refine LeO.bind ?_ (fun _ => ?_))
    · intro y0 y1
      unfold spec_l2Fault.l0
      repeat' (with_reducible first | exact ih0 _ _ | exact ih1 _ _ | exact ih2 _ _ _ | exact ih3 _ _ _ | exact ih4 _ _ _ | exact spec_l1Name.mono _ _ | exact spec_l2Attrs.mono _ _ | exact spec_l2Deep.mono _ _ _ | exact spec_l2Line.mono _ _ _ | exact LeO.refl _ | exact LeO.none _ | refine LeO.ite ?_ ?_ | refine LeO.bind ?_ (fun _ => ?_))
    · intro y0 y1 y2
      unfold spec_l2Fault.j2
      repeat' (with_reducible first | exact ih0 _ _ | exact ih1 _ _ | exact ih2 _ _ _ | exact ih3 _ _ _ | exact ih4 _ _ _ | exact spec_l1Name.mono _ _ | exact spec_l2Attrs.mono _ _ | exact spec_l2Deep.mono _ _ _ | exact spec_l2Line.mono _ _ _ | exact LeO.refl _ | exact LeO.none _ | refine LeO.ite ?_ ?_ | refine LeO.bind ?_ (fun _ => ?_))
    · intro y0 y1 y2
      unfold spec_l2Fault.j3
      repeat' (with_reducible first | exact ih0 _ _ | exact ih1 _ _ | exact ih2 _ _ _ | exact ih3 _ _ _ | exact ih4 _ _ _ | exact spec_l1Name.mono _ _ | exact spec_l2Attrs.mono _ _ | exact spec_l2Deep.mono _ _ _ | exact spec_l2Line.mono _ _ _ | exact LeO.refl _ | exact LeO.none _ | refine LeO.ite ?_ ?_ | refine LeO.bind ?_ (fun _ => ?_))
    · intro y0 y1 y2
      unfold spec_l2Fault.j4
      repeat' (with_reducible first | exact ih0 _ _ | exact ih1 _ _ | exact ih2 _ _ _ | exact ih3 _ _ _ | exact ih4 _ _ _ | exact spec_l1Name.mono _ _ | exact spec_l2Attrs.mono _ _ | exact spec_l2Deep.mono _ _ _ | exact spec_l2Line.mono _ _ _ | exact LeO.refl _ | exact LeO.none _ | refine LeO.ite ?_ ?_ | refine LeO.bind ?_ (fun _ => ?_))
theorem spec_l2Fault.mono : ∀ a0 k, LeO (spec_l2Fault.f k a0) (spec_l2Fault.f (k + 1) a0) := by
  intro a0 k
  obtain ⟨ih0, ih1, ih2, ih3, ih4⟩ := spec_l2Fault.mono_l k
  unfold spec_l2Fault.f
  repeat' (with_reducible first | exact ih0 _ _ | exact ih1 _ _ | exact ih2 _ _ _ | exact ih3 _ _ _ | exact ih4 _ _ _ | exact spec_l1Name.mono _ _ | exact spec_l2Attrs.mono _ _ | exact spec_l2Deep.mono _ _ _ | exact spec_l2Line.mono _ _ _ | exact LeO.refl _ | exact LeO.none _ | refine LeO.ite ?_ ?_ | refine LeO.bind ?_ (fun _ => ?_))
set_option maxHeartbeats 8000000 in
set_option maxRecDepth 100000 in
theorem spec_l2Fault.calls (k : Nat) (A0 : Option Addr) (c0 : Nat) (l0 : List (S40)) (r : Int) (w : World) (hr0 : Kd.C k40 w A0 l0.length l0) (hc0 : l0.length ≤ c0) (h : spec_l2Fault.f k l0 = some r) :
    Calls Tryz.prog 11 #[.slice A0 l0.length c0] w fun e w' => e = .returned (.int .i64 r) ∧ Drawn0 w w' := by
 have HR0 := a_ hr0; have HC0 := a_ hc0; clear hr0 hc0; have H : (if (l0.length : Int) < 1 then (spec_l2Fault.j0 k l0 true) else (spec_l2Fault.j0 k l0 (decide ((l0.length : Int) > 40)))) = some r := h; clear h; have HC2 := a_ H; clear H; go_enter Tryz.func11, Tryz.ntmps11
 go_upto_region 1 with (fail)
 go_cut [14] (fun v14 wc => ∃ (kq : Nat) (x14_1 : Bool), v14 = .bool x14_1 ∧ Aside0 (spec_l2Fault.j0 kq l0 x14_1 = some r) ∧ Aside0 (kq ≤ k) ∧ Drawn0 w wc)
 case first =>
  have H := HC2.out; clear HC2; by_cases cx0 : (l0.length : Int) < 1
  ·rw [if_pos cx0] at H; have cx0b0 : decide ((l0.length : Int) < 1) = true := decide_eq_true cx0; have cx0b1 : decide (l0.length < 1) = true := decide_eq_true (by omega); clear cx0; (first | rw [cx0b0] | (simp only [i64_w, i32_w]; rw [cx0b0]) | skip); have H' := a_ H; clear H; go_wp2
   go_meet
   case rel => exact ⟨_, (true), y2_, H', ⟨by first | omega | exact Nat.le_refl _⟩, y5_⟩
  ·rw [if_neg cx0] at H; have cx0b0 : decide ((l0.length : Int) < 1) = false := decide_eq_false cx0; have cx0b1 : decide (l0.length < 1) = false := decide_eq_false (by omega); clear cx0; (first | rw [cx0b0] | (simp only [i64_w, i32_w]; rw [cx0b0]) | skip); have H' := a_ H; clear H; go_wp2
   go_meet
   case rel => exact ⟨_, (decide ((l0.length : Int) > 40)), y2_, H', ⟨by first | omega | exact Nat.le_refl _⟩, y5_⟩
 case rest =>
  clear HC2; obtain ⟨kq, x14_1, rfl, HA, HJ1, ⟨mc1, rfl⟩⟩ := hcut; cases kq with
  | zero => exact absurd HA.out (by simp [spec_l2Fault.j0])
  | succ kj1 =>
   have H := HA.out; clear HA; simp only [spec_l2Fault.j0] at H; by_cases cx0 : x14_1 = true
   ·subst cx0; rw [if_pos rfl] at H; obtain rfl := Option.some.inj H; go_wp2
    go_ret
    exact ⟨y2_, y5_⟩
   ·replace cx0 := Bool.eq_false_iff.mpr cx0; subst cx0; rw [if_neg (show ¬ (false = true) by decide)] at H; have H' := a_ H; clear H; go_wp2
    go_loopg [3] kj1 (fun kq v3 w' => ∃ (x3_2 : Int), v3 = .int .i64 x3_2 ∧ Aside0 (spec_l2Fault.l0 kq l0 x3_2 = some r) ∧ Aside0 (kq ≤ kj1) ∧ Drawn0 w w')
    case atStart => exact ⟨(0), y2_, H', ⟨Nat.le_refl _⟩, y5_⟩
    case round =>
     clear H'; (try clear cx0); obtain ⟨x3_2, rfl, HA, HK2, ⟨m2, rfl⟩⟩ := hrel; cases gk with
     | zero => exact absurd HA.out (by simp [spec_l2Fault.l0])
     | succ k2 =>
      have H := HA.out; clear HA; simp only [spec_l2Fault.l0] at H; by_cases cx1 : x3_2 < (l0.length : Int); rw [if_pos cx1] at H; have cx1b0 : decide (x3_2 < (l0.length : Int)) = true := decide_eq_true cx1; clear cx1; by_cases cx2 : 0 ≤ x3_2; rw [if_pos cx2] at H; have cx2b0 : decide (0 ≤ x3_2) = true := decide_eq_true cx2; clear cx2; replace H := Option.bind_eq_some_iff.mp H; obtain ⟨tx3, Ay3, H⟩ := H; have Ax3 := a_ Ay3; clear Ay3; by_cases cx4 : tx3 = 0; rw [if_pos cx4] at H; have cx4b0 : (tx3 == 0) = true := beq_iff_eq.mpr cx4; have cx4b1 : (tx3 != 0) = false := bne_eq_false_iff_eq.mpr cx4; clear cx4; have HC9 := a_ H; clear H; have m1_0 := t_; have m1_2 := t_; have m1_4 := t_; have m1_5 := t_; rotate_left; rw [if_neg cx4] at H; have cx4b0 : (tx3 == 0) = false := beq_eq_false_iff_ne.mpr cx4; have cx4b1 : (tx3 != 0) = true := bne_iff_ne.mpr cx4; obtain rfl := Option.some.inj H; have m1_0 := t_; have m1_1 := t_; have m1_2 := t_; have m1_3 := t_; have m1_4 := t_; have m1_6 := t_; rotate_left
      ·rw [if_neg cx2] at H; exact absurd H y50_
      rw [if_neg cx1] at H; have cx1b0 : decide (x3_2 < (l0.length : Int)) = false := decide_eq_false cx1; clear cx1; obtain rfl := Option.some.inj H; have m1_7 := t_; rotate_left
      all_goals (
       first
       | fail_if_success clear m1_0
       |(clear m1_0; have p9922068 : 0 ≤ (x3_2 : Int) := of_decide_eq_true y3_; have q9922068 : x3_2 < (l0.length : Int) := of_decide_eq_true y3_)
       first
       | fail_if_success clear m1_1
       |(clear m1_1; (try clear hx9234155_0 hx9234155_1 hx9234155_2); (try clear hx9789789_0 hx9789789_1 hx9789789_2))
       first
       | fail_if_success clear m1_2
       |(clear m1_2; obtain ⟨ad9922068, A123_2, c123_2, e9922068, hx9922068_0, hx9922068_1, hx9922068_2, hl9922068_2, hi123_2⟩ := at_T40 HR0.out x3_2 p9922068 q9922068; cases e9922068; have HR123_2 := a_ hi123_2; have HC123_2 := a_ hl9922068_2; clear hi123_2 hl9922068_2; replace p9922068 := eq_true p9922068; replace q9922068 := eq_true q9922068; have p9548309 : 0 ≤ (x3_2 : Int) := of_decide_eq_true y3_; have q9548309 : x3_2 < (l0.length : Int) := of_decide_eq_true y3_)
       first
       | fail_if_success clear m1_3
       |(clear m1_3; (try clear hx9234155_0 hx9234155_1 hx9234155_2); (try clear hx9789789_0 hx9789789_1 hx9789789_2))
       first
       | fail_if_success clear m1_4
       |(clear m1_4; obtain ⟨ad9548309, A124_2, c124_2, e9548309, hx9548309_0, hx9548309_1, hx9548309_2, hl9548309_2, hi124_2⟩ := at_T40 HR0.out x3_2 p9548309 q9548309; obtain rfl : ad9922068 = ad9548309 := (by injection e9548309); have HR124_2 := a_ hi124_2; have HC124_2 := a_ hl9548309_2; clear hi124_2 hl9548309_2; replace p9548309 := eq_true p9548309; replace q9548309 := eq_true q9548309; have ea_ := Option.some.inj (hx9922068_2.symm.trans hx9548309_2); injection ea_ with ea_ en_ ec_; subst ea_; subst ec_; clear en_)
       first
       | fail_if_success clear m1_5
       |(clear m1_5; go_upto_region 10 with (first | ((with_reducible refine gate_callee (f := 20) rfl ?_); refine gc_ 20 28 Tryz.func20 #[.string ((rd_T40 l0 x3_2).f0)] ?_; (with_reducible refine (spec_l1Name.calls k2 ((rd_T40 l0 x3_2).f0) tx3 _ Ax3.out).mono ?_); rintro e w' ⟨rfl, ⟨nd, rfl⟩⟩; refine ⟨_, rfl, ?_⟩))
         (try simp only [Act.put, List.setIfInBounds_toArray, List.set_cons_zero, List.set_cons_succ]); go_cut [54] (fun v9105589 wc => ∃ (kq : Nat) (x54_8 : Bool), v9105589 = .bool x54_8 ∧ Aside0 (spec_l2Fault.j2 kq l0 x3_2 x54_8 = some r) ∧ Aside0 (kq ≤ k2) ∧ Drawn0 w wc)
         case first =>
          have H := HC9.out; clear HC9; by_cases cx5 : x3_2 = 0
          ·rw [if_pos cx5] at H; have cx5b0 : (x3_2 == 0) = true := beq_iff_eq.mpr cx5; have cx5b1 : (x3_2 != 0) = false := bne_eq_false_iff_eq.mpr cx5; clear cx5; (first | rw [cx5b0] | (simp only [i64_w, i32_w]; rw [cx5b0]) | skip); by_cases cx6 : ((rd_T40 l0 x3_2).f1) = (-1)
           ·rw [if_pos cx6] at H; have cx6b0 : (((rd_T40 l0 x3_2).f1) == (-1)) = true := beq_iff_eq.mpr cx6; have cx6b1 : (((rd_T40 l0 x3_2).f1) != (-1)) = false := bne_eq_false_iff_eq.mpr cx6; clear cx6; by_cases cx7 : x3_2 > 0
            ·rw [if_pos cx7] at H; have cx7b0 : decide (0 < x3_2) = true := decide_eq_true cx7; clear cx7; replace H := Option.bind_eq_some_iff.mp H; obtain ⟨tx8, Ay8, H⟩ := H; have Ax8 := a_ Ay8; clear Ay8; have H' := a_ H; clear H; go_wp2_with (first | (go_at_call 21; (with_reducible refine (spec_l1In.calls ((rd_T40 l0 x3_2).f1) 0 (wrap64 (x3_2 - 1)) tx8 _ Ax8.out).mono ?_); rintro e w' ⟨rfl, ⟨nd, rfl⟩⟩))
             go_meet
             case rel => exact ⟨_, (!tx8), y2_, H', ⟨y63_⟩, y5_⟩
            ·rw [if_neg cx7] at H; have cx7b0 : decide (0 < x3_2) = false := decide_eq_false cx7; clear cx7; have H' := a_ H; clear H; go_wp2
             go_meet
             case rel => exact ⟨_, (false), y2_, H', ⟨y63_⟩, y5_⟩
           ·rw [if_neg cx6] at H; have cx6b0 : (((rd_T40 l0 x3_2).f1) == (-1)) = false := beq_eq_false_iff_ne.mpr cx6; have cx6b1 : (((rd_T40 l0 x3_2).f1) != (-1)) = true := bne_iff_ne.mpr cx6; have H' := a_ H; clear H; go_wp2
            go_meet
            case rel => exact ⟨_, (true), y2_, H', ⟨y63_⟩, y5_⟩
          ·rw [if_neg cx5] at H; have cx5b0 : (x3_2 == 0) = false := beq_eq_false_iff_ne.mpr cx5; have cx5b1 : (x3_2 != 0) = true := bne_iff_ne.mpr cx5; (first | rw [cx5b0] | (simp only [i64_w, i32_w]; rw [cx5b0]) | skip); by_cases cx6 : x3_2 > 0
           ·rw [if_pos cx6] at H; have cx6b0 : decide (0 < x3_2) = true := decide_eq_true cx6; clear cx6; replace H := Option.bind_eq_some_iff.mp H; obtain ⟨tx7, Ay7, H⟩ := H; have Ax7 := a_ Ay7; clear Ay7; have H' := a_ H; clear H; go_wp2_with (first | (go_at_call 21; (with_reducible refine (spec_l1In.calls ((rd_T40 l0 x3_2).f1) 0 (wrap64 (x3_2 - 1)) tx7 _ Ax7.out).mono ?_); rintro e w' ⟨rfl, ⟨nd, rfl⟩⟩))
            go_meet
            case rel => exact ⟨_, (!tx7), y2_, H', ⟨y63_⟩, y5_⟩
           ·rw [if_neg cx6] at H; have cx6b0 : decide (0 < x3_2) = false := decide_eq_false cx6; clear cx6; have H' := a_ H; clear H; go_wp2
            go_meet
            case rel => exact ⟨_, (false), y2_, H', ⟨y63_⟩, y5_⟩
         case rest =>
          clear HC9; (try clear cx0); (try clear cx1); (try clear cx1b0); (try clear cx2); (try clear cx2b0); (try clear cx4); (try clear cx4b0); (try clear cx4b1); obtain ⟨kq, x54_8, rfl, HA, HJ8, ⟨mc8, rfl⟩⟩ := hcut; cases kq with
          | zero => exact absurd HA.out (by simp [spec_l2Fault.j2])
          | succ kj8 =>
           have H := HA.out; clear HA; simp only [spec_l2Fault.j2] at H; by_cases cx5 : x54_8 = true
           ·subst cx5; rw [if_pos rfl] at H; obtain rfl := Option.some.inj H; go_wp2
            go_ret
            exact ⟨y2_, y5_⟩
           ·replace cx5 := Bool.eq_false_iff.mpr cx5; subst cx5; rw [if_neg (show ¬ (false = true) by decide)] at H; have HC17 := a_ H; clear H; go_upto_region 12 with (fail)
            go_cut [62] (fun v9386570 wc => ∃ (kq : Nat) (x62_16 : Bool), v9386570 = .bool x62_16 ∧ Aside0 (spec_l2Fault.j3 kq l0 x3_2 x62_16 = some r) ∧ Aside0 (kq ≤ kj8) ∧ Drawn0 w wc)
            case first =>
             have H := HC17.out; clear HC17; by_cases cx6 : x3_2 > 0
             ·rw [if_pos cx6] at H; have cx6b0 : decide (0 < x3_2) = true := decide_eq_true cx6; clear cx6; (first | rw [cx6b0] | (simp only [i64_w, i32_w]; rw [cx6b0]) | skip); replace H := Option.bind_eq_some_iff.mp H; obtain ⟨tx7, Ay7, H⟩ := H; have Ax7 := a_ Ay7; clear Ay7; have H' := a_ H; clear H; go_wp2_with (first | (go_at_call 22; (with_reducible refine (spec_l2Line.calls kj8 _ _ l0 x3_2 tx7 _ ?side1 ?side2 Ax7.out).mono ?_); (case side1 => repeat (first | exact HR0.out | (with_reducible refine Kd.C_alloc ?_ _) | (with_reducible refine Kd.C_drewN ?_ _) | (with_reducible refine Kd.C_drew ?_))); (case side2 => exact HC0.out); rintro e w' ⟨rfl, ⟨nd, rfl⟩⟩))
              go_meet
              case rel => exact ⟨_, (!tx7), y2_, H', ⟨by have := HJ1.out; have := HK2.out; have := HJ8.out; first | omega | exact Nat.le_refl _⟩, y5_⟩
             ·rw [if_neg cx6] at H; have cx6b0 : decide (0 < x3_2) = false := decide_eq_false cx6; clear cx6; (first | rw [cx6b0] | (simp only [i64_w, i32_w]; rw [cx6b0]) | skip); have H' := a_ H; clear H; go_wp2
              go_meet
              case rel => exact ⟨_, (false), y2_, H', ⟨by have := HJ1.out; have := HK2.out; have := HJ8.out; first | omega | exact Nat.le_refl _⟩, y5_⟩
            case rest =>
             clear HC17; (try clear cx0); (try clear cx1); (try clear cx1b0); (try clear cx2); (try clear cx2b0); (try clear cx4); (try clear cx4b0); (try clear cx4b1); (try clear cx5); obtain ⟨kq, x62_16, rfl, HA, HJ16, ⟨mc16, rfl⟩⟩ := hcut; cases kq with
             | zero => exact absurd HA.out (by simp [spec_l2Fault.j3])
             | succ kj16 =>
              have H := HA.out; clear HA; simp only [spec_l2Fault.j3] at H; by_cases cx6 : x62_16 = true
              ·subst cx6; rw [if_pos rfl] at H; obtain rfl := Option.some.inj H; go_wp2
               go_ret
               exact ⟨y2_, y5_⟩
              ·replace cx6 := Bool.eq_false_iff.mpr cx6; subst cx6; rw [if_neg (show ¬ (false = true) by decide)] at H; have HC21 := a_ H; clear H; go_upto_region 14 with (fail)
               go_cut [74] (fun v9234926 wc => ∃ (kq : Nat) (x74_20 : Bool), v9234926 = .bool x74_20 ∧ Aside0 (spec_l2Fault.j4 kq l0 x3_2 x74_20 = some r) ∧ Aside0 (kq ≤ kj16) ∧ Drawn0 w wc)
               case first =>
                have H := HC21.out; clear HC21; replace H := Option.bind_eq_some_iff.mp H; obtain ⟨tx7, Ay7, H⟩ := H; have Ax7 := a_ Ay7; clear Ay7; by_cases cx8 : tx7 > 8
                ·rw [if_pos cx8] at H; have cx8b0 : decide (8 < tx7) = true := decide_eq_true cx8; clear cx8; (first | rw [cx8b0] | (simp only [i64_w, i32_w]; rw [cx8b0]) | skip); have H' := a_ H; clear H; go_wp2_with (first | ((with_reducible refine gate_callee (f := 23) rfl ?_); refine gc_ 23 65 Tryz.func23 #[.slice (some ad9922068) l0.length c0, .int .i64 x3_2] ?_; (with_reducible refine (spec_l2Deep.calls kj16 _ _ l0 x3_2 tx7 _ ?side1 ?side2 Ax7.out).mono ?_); (case side1 => repeat (first | exact HR0.out | (with_reducible refine Kd.C_alloc ?_ _) | (with_reducible refine Kd.C_drewN ?_ _) | (with_reducible refine Kd.C_drew ?_))); (case side2 => exact HC0.out); rintro e w' ⟨rfl, ⟨nd, rfl⟩⟩; refine ⟨_, rfl, ?_⟩))
                 go_meet
                 case rel => exact ⟨_, (true), y2_, H', ⟨by have := HJ1.out; have := HK2.out; have := HJ8.out; have := HJ16.out; first | omega | exact Nat.le_refl _⟩, y5_⟩
                ·rw [if_neg cx8] at H; have cx8b0 : decide (8 < tx7) = false := decide_eq_false cx8; clear cx8; (first | rw [cx8b0] | (simp only [i64_w, i32_w]; rw [cx8b0]) | skip); by_cases cx9 : 0 ≤ x3_2
                 ·rw [if_pos cx9] at H; have cx9b0 : decide (0 ≤ x3_2) = true := decide_eq_true cx9; clear cx9; by_cases cx10 : x3_2 < (l0.length : Int)
                  ·rw [if_pos cx10] at H; have cx10b0 : decide (x3_2 < (l0.length : Int)) = true := decide_eq_true cx10; clear cx10; have H' := a_ H; clear H; go_wp2_with (first | ((with_reducible refine gate_callee (f := 23) rfl ?_); refine gc_ 23 65 Tryz.func23 #[.slice (some ad9922068) l0.length c0, .int .i64 x3_2] ?_; (with_reducible refine (spec_l2Deep.calls kj16 _ _ l0 x3_2 tx7 _ ?side1 ?side2 Ax7.out).mono ?_); (case side1 => repeat (first | exact HR0.out | (with_reducible refine Kd.C_alloc ?_ _) | (with_reducible refine Kd.C_drewN ?_ _) | (with_reducible refine Kd.C_drew ?_))); (case side2 => exact HC0.out); rintro e w' ⟨rfl, ⟨nd, rfl⟩⟩; refine ⟨_, rfl, ?_⟩; have p9197486 : 0 ≤ (x3_2 : Int) := of_decide_eq_true y3_; have q9197486 : x3_2 < (l0.length : Int) := of_decide_eq_true y3_; (try clear hx9922068_0 hx9922068_1 hx9922068_2); (try clear hx9548309_0 hx9548309_1 hx9548309_2); obtain ⟨ad9197486, A130_2, c130_2, e9197486, hx9197486_0, hx9197486_1, hx9197486_2, hl9197486_2, hi130_2⟩ := at_T40 HR0.out x3_2 p9197486 q9197486; obtain rfl : ad9922068 = ad9197486 := (by injection e9197486); have HR130_2 := a_ hi130_2; have HC130_2 := a_ hl9197486_2; clear hi130_2 hl9197486_2; replace p9197486 := eq_true p9197486; replace q9197486 := eq_true q9197486))
                   go_meet
                   case rel => exact ⟨_, (decide ((((rd_T40 l0 x3_2).f2).length : Int) > 6)), y2_, H', ⟨by have := HJ1.out; have := HK2.out; have := HJ8.out; have := HJ16.out; first | omega | exact Nat.le_refl _⟩, y5_⟩
                  ·rw [if_neg cx10] at H; exact absurd H y50_
                 ·rw [if_neg cx9] at H; exact absurd H y50_
               case rest =>
                clear HC21; (try clear cx0); (try clear cx1); (try clear cx1b0); (try clear cx2); (try clear cx2b0); (try clear cx4); (try clear cx4b0); (try clear cx4b1); (try clear cx5); (try clear cx6); obtain ⟨kq, x74_20, rfl, HA, HJ20, ⟨mc20, rfl⟩⟩ := hcut; cases kq with
                | zero => exact absurd HA.out (by simp [spec_l2Fault.j4])
                | succ kj20 =>
                 have H := HA.out; clear HA; simp only [spec_l2Fault.j4] at H; by_cases cx7 : x74_20 = true; subst cx7; rw [if_pos rfl] at H; obtain rfl := Option.some.inj H; have m4_0 := t_; rotate_left; replace cx7 := Bool.eq_false_iff.mpr cx7; subst cx7; rw [if_neg (show ¬ (false = true) by decide)] at H; by_cases cx8 : 0 ≤ x3_2; rw [if_pos cx8] at H; have cx8b0 : decide (0 ≤ x3_2) = true := decide_eq_true cx8; clear cx8; by_cases cx9 : x3_2 < (l0.length : Int); rw [if_pos cx9] at H; have cx9b0 : decide (x3_2 < (l0.length : Int)) = true := decide_eq_true cx9; clear cx9; replace H := Option.bind_eq_some_iff.mp H; obtain ⟨tx10, Ay10, H⟩ := H; have Ax10 := a_ Ay10; clear Ay10; by_cases cx11 : tx10 = 0; rw [if_pos cx11] at H; have cx11b0 : (tx10 == 0) = true := beq_iff_eq.mpr cx11; have cx11b1 : (tx10 != 0) = false := bne_eq_false_iff_eq.mpr cx11; clear cx11; have H' := a_ H; clear H; have m4_1 := t_; have m4_2 := t_; rotate_left; rw [if_neg cx11] at H; have cx11b0 : (tx10 == 0) = false := beq_eq_false_iff_ne.mpr cx11; have cx11b1 : (tx10 != 0) = true := bne_iff_ne.mpr cx11; obtain rfl := Option.some.inj H; have m4_1 := t_; have m4_3 := t_; rotate_left
                 ·rw [if_neg cx9] at H; exact absurd H y50_
                 ·rw [if_neg cx8] at H; exact absurd H y50_
                 all_goals (
                  first
                  | fail_if_success clear m4_0
                  |(clear m4_0; go_wp2
                    go_ret
                    exact ⟨y2_, y5_⟩)
                  first
                  | fail_if_success clear m4_1
                  |(clear m4_1; have p9058667 : 0 ≤ (x3_2 : Int) := of_decide_eq_true y3_; have q9058667 : x3_2 < (l0.length : Int) := of_decide_eq_true y3_; (try clear hx9922068_0 hx9922068_1 hx9922068_2); (try clear hx9548309_0 hx9548309_1 hx9548309_2); (try clear hx9197486_0 hx9197486_1 hx9197486_2)
                    obtain ⟨ad9058667, A131_2, c131_2, e9058667, hx9058667_0, hx9058667_1, hx9058667_2, hl9058667_2, hi131_2⟩ := at_T40 HR0.out x3_2 p9058667 q9058667; obtain rfl : ad9922068 = ad9058667 := (by injection e9058667); have HR131_2 := a_ hi131_2; have HC131_2 := a_ hl9058667_2; clear hi131_2 hl9058667_2; replace p9058667 := eq_true p9058667; replace q9058667 := eq_true q9058667; go_wp2_with (first | ((with_reducible refine gate_callee (f := 24) rfl ?_); refine gc_ 24 79 Tryz.func24 #[.slice A131_2 ((rd_T40 l0 x3_2).f2).length c131_2] ?_; (with_reducible refine (spec_l2Attrs.calls kj20 _ _ ((rd_T40 l0 x3_2).f2) tx10 _ ?side1 ?side2 Ax10.out).mono ?_); (case side1 => repeat (first | exact HR131_2.out | (with_reducible refine Kd.C_alloc ?_ _) | (with_reducible refine Kd.C_drewN ?_ _) | (with_reducible refine Kd.C_drew ?_))); (case side2 => exact HC131_2.out); rintro e w' ⟨rfl, ⟨nd, rfl⟩⟩; refine ⟨_, rfl, ?_⟩)))
                  first
                  | fail_if_success clear m4_2
                  |(clear m4_2; go_roundg kj20
                    case measure => have := HJ1.out; have := HK2.out; have := HJ8.out; have := HJ16.out; have := HJ20.out; omega
                    case rel => exact ⟨(wrap64 (x3_2 + 1)), y2_, H', ⟨by have := HJ1.out; have := HK2.out; have := HJ8.out; have := HJ16.out; have := HJ20.out; omega⟩, y5_⟩)
                  first
                  | fail_if_success clear m4_3
                  |(clear m4_3; go_ret
                    exact ⟨y2_, y5_⟩)))
       first
       | fail_if_success clear m1_6
       |(clear m1_6; go_wp2_with (first | ((with_reducible refine gate_callee (f := 20) rfl ?_); refine gc_ 20 28 Tryz.func20 #[.string ((rd_T40 l0 x3_2).f0)] ?_; (with_reducible refine (spec_l1Name.calls k2 ((rd_T40 l0 x3_2).f0) tx3 _ Ax3.out).mono ?_); rintro e w' ⟨rfl, ⟨nd, rfl⟩⟩; refine ⟨_, rfl, ?_⟩))
         go_ret
         exact ⟨y2_, y5_⟩)
       first
       | fail_if_success clear m1_7
       |(clear m1_7; go_wp2
         go_ret
         exact ⟨y2_, y5_⟩))

/-! ### spec_l1Escape: function 25 -/
def spec_l1Escape.l0 : Nat → ByteArray → ByteArray → Int → Option (ByteArray)
  | 0, _, _, _ => none
  | k + 1, x0, x3, x4 => if x4 < (x0.size : Int) then (if 0 ≤ x4 then (if (bt x0 x4) = 60 then (if x3.size + 4 ≤ 9223372036854775807 then (spec_l1Escape.l0 k x0 (x3 ++ (⟨#[38, 108, 116, 59]⟩ : ByteArray)) (wrap64 (x4 + 1))) else (none)) else (if (bt x0 x4) = 62 then (if x3.size + 4 ≤ 9223372036854775807 then (spec_l1Escape.l0 k x0 (x3 ++ (⟨#[38, 103, 116, 59]⟩ : ByteArray)) (wrap64 (x4 + 1))) else (none)) else (if (bt x0 x4) = 38 then (if x3.size + 5 ≤ 9223372036854775807 then (spec_l1Escape.l0 k x0 (x3 ++ (⟨#[38, 97, 109, 112, 59]⟩ : ByteArray)) (wrap64 (x4 + 1))) else (none)) else (if (bt x0 x4) = 34 then (if x3.size + 6 ≤ 9223372036854775807 then (spec_l1Escape.l0 k x0 (x3 ++ (⟨#[38, 113, 117, 111, 116, 59]⟩ : ByteArray)) (wrap64 (x4 + 1))) else (none)) else (if x4 ≤ (wrap64 (x4 + 1)) then (if (wrap64 (x4 + 1)) ≤ (x0.size : Int) then (if x3.size + (x0.extract (x4 : Int).toNat ((wrap64 (x4 + 1)) : Int).toNat).size ≤ 9223372036854775807 then (spec_l1Escape.l0 k x0 (x3 ++ (x0.extract (x4 : Int).toNat ((wrap64 (x4 + 1)) : Int).toNat)) (wrap64 (x4 + 1))) else (none)) else (none)) else (none)))))) else (none)) else (some x3)
def spec_l1Escape.f (k : Nat) (a0 : ByteArray) : Option (ByteArray) := spec_l1Escape.l0 k a0 (⟨#[]⟩ : ByteArray) 0
theorem spec_l1Escape.mono_l : ∀ k, (∀ y0 y1 y2, LeO (spec_l1Escape.l0 k y0 y1 y2) (spec_l1Escape.l0 (k + 1) y0 y1 y2))
  | 0 => fun _ _ _ r h => by simp [spec_l1Escape.l0] at h
  | k + 1 => by
    have ih0 := spec_l1Escape.mono_l k
    · intro y0 y1 y2
      unfold spec_l1Escape.l0
      repeat' (with_reducible first | exact ih0 _ _ _ | exact LeO.refl _ | exact LeO.none _ | refine LeO.ite ?_ ?_ | refine LeO.bind ?_ (fun _ => ?_))
theorem spec_l1Escape.mono : ∀ a0 k, LeO (spec_l1Escape.f k a0) (spec_l1Escape.f (k + 1) a0) := by
  intro a0 k
  have ih0 := spec_l1Escape.mono_l k
  unfold spec_l1Escape.f
  repeat' (with_reducible first | exact ih0 _ _ _ | exact LeO.refl _ | exact LeO.none _ | refine LeO.ite ?_ ?_ | refine LeO.bind ?_ (fun _ => ?_))
set_option maxHeartbeats 8000000 in
set_option maxRecDepth 100000 in
theorem spec_l1Escape.calls (k : Nat) (a0 : ByteArray) (r : ByteArray) (w : World) (h : spec_l1Escape.f k a0 = some r) :
    Calls Tryz.prog 25 #[.string a0] w fun e w' => e = .returned (.string r) ∧ Drawn0 w w' := by
 have H : (spec_l1Escape.l0 k a0 (⟨#[]⟩ : ByteArray) 0) = some r := h; clear h; have H' := a_ H; clear H; go_enter Tryz.func25, Tryz.ntmps25
 go_wp2
 go_loopg [3, 4] k (fun kq v3 v4 w' => ∃ (x3_1 : ByteArray) (x4_1 : Int), v3 = .string x3_1 ∧ v4 = .int .i64 x4_1 ∧ Aside0 (spec_l1Escape.l0 kq a0 x3_1 x4_1 = some r) ∧ Aside0 (kq ≤ k) ∧ Drawn0 w w')
 case atStart => exact ⟨((⟨#[]⟩ : ByteArray)), (0), y2_, y2_, H', ⟨Nat.le_refl _⟩, y5_⟩
 case round =>
  clear H'; obtain ⟨x3_1, x4_1, rfl, rfl, HA, HK1, ⟨m1, rfl⟩⟩ := hrel; cases gk with
  | zero => exact absurd HA.out (by simp [spec_l1Escape.l0])
  | succ k1 =>
   have H := HA.out; clear HA; simp only [spec_l1Escape.l0] at H; by_cases cx0 : x4_1 < (a0.size : Int); rw [if_pos cx0] at H; have cx0b0 : decide (x4_1 < (a0.size : Int)) = true := decide_eq_true cx0; clear cx0; by_cases cx1 : 0 ≤ x4_1; rw [if_pos cx1] at H; have cx1b0 : decide (0 ≤ x4_1) = true := decide_eq_true cx1; clear cx1; by_cases cx2 : (bt a0 x4_1) = 60; rw [if_pos cx2] at H; have cx2b0 : ((bt a0 x4_1) == 60) = true := beq_iff_eq.mpr cx2; have cx2b1 : ((bt a0 x4_1) != 60) = false := bne_eq_false_iff_eq.mpr cx2; clear cx2; by_cases cx3 : x3_1.size + 4 ≤ 9223372036854775807; rw [if_pos cx3] at H; have cx3b0 := eq_true cx3; have cx3b1 : decide (x3_1.size + 4 ≤ 9223372036854775807) = true := decide_eq_true cx3; try have cx3b2 : (9223372036854775807 < x3_1.size + 4) = False := eq_false (Nat.not_lt.2 cx3)
   have H' := a_ H; clear H; have m0_0 := t_; have m0_1 := t_; rotate_left
   ·rw [if_neg cx3] at H; exact absurd H y50_
   rw [if_neg cx2] at H; have cx2b0 : ((bt a0 x4_1) == 60) = false := beq_eq_false_iff_ne.mpr cx2; have cx2b1 : ((bt a0 x4_1) != 60) = true := bne_iff_ne.mpr cx2; by_cases cx3 : (bt a0 x4_1) = 62; rw [if_pos cx3] at H; have cx3b0 : ((bt a0 x4_1) == 62) = true := beq_iff_eq.mpr cx3; have cx3b1 : ((bt a0 x4_1) != 62) = false := bne_eq_false_iff_eq.mpr cx3; clear cx3; by_cases cx4 : x3_1.size + 4 ≤ 9223372036854775807; rw [if_pos cx4] at H; have cx4b0 := eq_true cx4; have cx4b1 : decide (x3_1.size + 4 ≤ 9223372036854775807) = true := decide_eq_true cx4; try have cx4b2 : (9223372036854775807 < x3_1.size + 4) = False := eq_false (Nat.not_lt.2 cx4)
   have H' := a_ H; clear H; have m0_0 := t_; have m0_2 := t_; rotate_left
   ·rw [if_neg cx4] at H; exact absurd H y50_
   rw [if_neg cx3] at H; have cx3b0 : ((bt a0 x4_1) == 62) = false := beq_eq_false_iff_ne.mpr cx3; have cx3b1 : ((bt a0 x4_1) != 62) = true := bne_iff_ne.mpr cx3; by_cases cx4 : (bt a0 x4_1) = 38; rw [if_pos cx4] at H; have cx4b0 : ((bt a0 x4_1) == 38) = true := beq_iff_eq.mpr cx4; have cx4b1 : ((bt a0 x4_1) != 38) = false := bne_eq_false_iff_eq.mpr cx4; clear cx4; by_cases cx5 : x3_1.size + 5 ≤ 9223372036854775807; rw [if_pos cx5] at H; have cx5b0 := eq_true cx5; have cx5b1 : decide (x3_1.size + 5 ≤ 9223372036854775807) = true := decide_eq_true cx5; try have cx5b2 : (9223372036854775807 < x3_1.size + 5) = False := eq_false (Nat.not_lt.2 cx5)
   have H' := a_ H; clear H; have m0_0 := t_; have m0_3 := t_; rotate_left
   ·rw [if_neg cx5] at H; exact absurd H y50_
   rw [if_neg cx4] at H; have cx4b0 : ((bt a0 x4_1) == 38) = false := beq_eq_false_iff_ne.mpr cx4; have cx4b1 : ((bt a0 x4_1) != 38) = true := bne_iff_ne.mpr cx4; by_cases cx5 : (bt a0 x4_1) = 34; rw [if_pos cx5] at H; have cx5b0 : ((bt a0 x4_1) == 34) = true := beq_iff_eq.mpr cx5; have cx5b1 : ((bt a0 x4_1) != 34) = false := bne_eq_false_iff_eq.mpr cx5; clear cx5; by_cases cx6 : x3_1.size + 6 ≤ 9223372036854775807; rw [if_pos cx6] at H; have cx6b0 := eq_true cx6; have cx6b1 : decide (x3_1.size + 6 ≤ 9223372036854775807) = true := decide_eq_true cx6; try have cx6b2 : (9223372036854775807 < x3_1.size + 6) = False := eq_false (Nat.not_lt.2 cx6)
   have H' := a_ H; clear H; have m0_0 := t_; have m0_4 := t_; rotate_left
   ·rw [if_neg cx6] at H; exact absurd H y50_
   rw [if_neg cx5] at H; have cx5b0 : ((bt a0 x4_1) == 34) = false := beq_eq_false_iff_ne.mpr cx5; have cx5b1 : ((bt a0 x4_1) != 34) = true := bne_iff_ne.mpr cx5; have c13b0 := eq_true (of_decide_eq_true y3_ : 0 ≤ x4_1); by_cases cx6 : x4_1 ≤ (wrap64 (x4_1 + 1)); rw [if_pos cx6] at H; have cx6b0 := eq_true cx6; have cx6b1 : decide (x4_1 ≤ (wrap64 (x4_1 + 1))) = true := decide_eq_true cx6; by_cases cx7 : (wrap64 (x4_1 + 1)) ≤ (a0.size : Int); rw [if_pos cx7] at H; have cx7b0 := eq_true cx7; have cx7b1 : decide ((wrap64 (x4_1 + 1)) ≤ (a0.size : Int)) = true := decide_eq_true cx7; by_cases cx8 : x3_1.size + (a0.extract (x4_1 : Int).toNat ((wrap64 (x4_1 + 1)) : Int).toNat).size ≤ 9223372036854775807; rw [if_pos cx8] at H; have cx8b0 := eq_true cx8; have cx8b1 : decide (x3_1.size + (a0.extract (x4_1 : Int).toNat ((wrap64 (x4_1 + 1)) : Int).toNat).size ≤ 9223372036854775807) = true := decide_eq_true cx8; try have cx8b2 : (9223372036854775807 < x3_1.size + (a0.extract (x4_1 : Int).toNat ((wrap64 (x4_1 + 1)) : Int).toNat).size) = False := eq_false (Nat.not_lt.2 cx8)
   try have cx8b3 : (9223372036854775807 < x3_1.size + ((((wrap64 (x4_1 + 1)) : Int).toNat - (x4_1 : Int).toNat))) = False := eq_false (Nat.not_lt.2 (by have h_ := cx8; (try simp only [ByteArray.size_append, ByteArray.size_extract] at h_);  omega))
   have H' := a_ H; clear H; have m0_0 := t_; have m0_5 := t_; rotate_left
   ·rw [if_neg cx8] at H; exact absurd H y50_
   ·rw [if_neg cx7] at H; exact absurd H y50_
   ·rw [if_neg cx6] at H; exact absurd H y50_
   ·rw [if_neg cx1] at H; exact absurd H y50_
   rw [if_neg cx0] at H; have cx0b0 : decide (x4_1 < (a0.size : Int)) = false := decide_eq_false cx0; clear cx0; obtain rfl := Option.some.inj H; have m0_6 := t_; rotate_left
   all_goals (
    first
    | fail_if_success clear m0_0
    |(clear m0_0; have p9922068 : 0 ≤ (x4_1 : Int) := of_decide_eq_true y3_; have q9922068 : x4_1 < (a0.size : Int) := of_decide_eq_true y3_; have hx9922068 := bt_at a0 x4_1; replace p9922068 := eq_true p9922068; replace q9922068 := eq_true q9922068; go_wp2
      go_roundg k1
      case measure => have := HK1.out; omega)
    first
    | fail_if_success clear m0_1
    |(clear m0_1
      case rel => exact ⟨(x3_1 ++ (⟨#[38, 108, 116, 59]⟩ : ByteArray)), (wrap64 (x4_1 + 1)), y2_, y2_, H', ⟨y29_⟩, y5_⟩)
    first
    | fail_if_success clear m0_2
    |(clear m0_2
      case rel => exact ⟨(x3_1 ++ (⟨#[38, 103, 116, 59]⟩ : ByteArray)), (wrap64 (x4_1 + 1)), y2_, y2_, H', ⟨y29_⟩, y5_⟩)
    first
    | fail_if_success clear m0_3
    |(clear m0_3
      case rel => exact ⟨(x3_1 ++ (⟨#[38, 97, 109, 112, 59]⟩ : ByteArray)), (wrap64 (x4_1 + 1)), y2_, y2_, H', ⟨y29_⟩, y5_⟩)
    first
    | fail_if_success clear m0_4
    |(clear m0_4
      case rel => exact ⟨(x3_1 ++ (⟨#[38, 113, 117, 111, 116, 59]⟩ : ByteArray)), (wrap64 (x4_1 + 1)), y2_, y2_, H', ⟨y29_⟩, y5_⟩)
    first
    | fail_if_success clear m0_5
    |(clear m0_5
      case rel => exact ⟨(x3_1 ++ (a0.extract (x4_1 : Int).toNat ((wrap64 (x4_1 + 1)) : Int).toNat)), (wrap64 (x4_1 + 1)), y2_, y2_, H', ⟨y29_⟩, y5_⟩)
    first
    | fail_if_success clear m0_6
    |(clear m0_6; go_wp2
      go_ret
      exact ⟨y2_, y5_⟩))

/-! ### spec_l2Kids: function 26 -/
def spec_l2Kids.l0 : Nat → List (S40) → Int → List Int → Int → Option (List Int)
  | 0, _, _, _, _ => none
  | k + 1, x0, x1, x5, x6 => if x6 < (x0.length : Int) then (if 0 ≤ x6 then (if ((rd_T40 x0 x6).f1) = x1 then (if x5.length < 17592186044416 then (spec_l2Kids.l0 k x0 x1 (x5 ++ [x6]) (wrap64 (x6 + 1))) else (none)) else (spec_l2Kids.l0 k x0 x1 x5 (wrap64 (x6 + 1)))) else (none)) else (some x5)
def spec_l2Kids.f (k : Nat) (l0 : List (S40)) (a1 : Int) : Option (List Int) := spec_l2Kids.l0 k l0 a1 (([] : List Int)) 0
theorem spec_l2Kids.mono_l : ∀ k, (∀ y0 y1 y2 y3, LeO (spec_l2Kids.l0 k y0 y1 y2 y3) (spec_l2Kids.l0 (k + 1) y0 y1 y2 y3))
  | 0 => fun _ _ _ _ r h => by simp [spec_l2Kids.l0] at h
  | k + 1 => by
    have ih0 := spec_l2Kids.mono_l k
    · intro y0 y1 y2 y3
      unfold spec_l2Kids.l0
      repeat' (with_reducible first | exact ih0 _ _ _ _ | exact LeO.refl _ | exact LeO.none _ | refine LeO.ite ?_ ?_ | refine LeO.bind ?_ (fun _ => ?_))
theorem spec_l2Kids.mono : ∀ a0 a1 k, LeO (spec_l2Kids.f k a0 a1) (spec_l2Kids.f (k + 1) a0 a1) := by
  intro a0 a1 k
  have ih0 := spec_l2Kids.mono_l k
  unfold spec_l2Kids.f
  repeat' (with_reducible first | exact ih0 _ _ _ _ | exact LeO.refl _ | exact LeO.none _ | refine LeO.ite ?_ ?_ | refine LeO.bind ?_ (fun _ => ?_))
set_option maxHeartbeats 8000000 in
set_option maxRecDepth 100000 in
theorem spec_l2Kids.calls (k : Nat) (A0 : Option Addr) (c0 : Nat) (l0 : List (S40)) (a1 : Int) (r : List Int) (w : World) (hr0 : Kd.C k40 w A0 l0.length l0) (hc0 : l0.length ≤ c0) (h : spec_l2Kids.f k l0 a1 = some r) :
    Calls Tryz.prog 26 #[.slice A0 l0.length c0, .int .i64 a1] w fun e w' => ∃ v0_ : Value, e = .returned (v0_) ∧ Kd.R (Kd.int .i64) 2 w' w.heap.size (fun _ => True) v0_ r ∧ Below w.heap.size w w' := by
 have HR0 := a_ hr0; have HC0 := a_ hc0; clear hr0 hc0; have HB := a_ (Below.refl w.heap.size w); have H : (spec_l2Kids.l0 k l0 a1 (([] : List Int)) 0) = some r := h; clear h; obtain ⟨y133, hy_⟩ : ∃ y_ : List Int, y_ = (([] : List Int)) := ⟨_, rfl⟩; replace H : (spec_l2Kids.l0 k l0 a1 y133 0) = some r := z0_; have Ny133 := a_ hy_; clear hy_; have H' := a_ H; clear H; go_enter Tryz.func26, Tryz.ntmps26
 go_wp2_with (first | ((with_reducible refine gate_dst (N := 7) rfl ?_); refine Kd.R_lit (Kd.int .i64) _ 2 ?hg (N := 7) ?hd (xs := ([] : List Int)) (inner := []) (ok := fun _ => True) (okp := fun _ => True) ?hr ?hp (fun _ hk => hk) trivial (Below.refl _ _) (Nat.le_refl _) y50_ ?_; (case hd => rfl); (case hg => rfl); (case hr => first | (go_simp; done) | (go_simp; rfl)); (case hp => exact (Reps.none _ _)); intro v134 w3 ho4 hb hg_ hnew_; clear hg_ hnew_; (first | rw [← Ny133.out] at ho4 | (simp only [Int.reduceToNat] at ho4; rw [← Ny133.out] at ho4)); have n0_ := a_ (Kd.R_lower ho4 (below_size y0_)); have n1_ := a_ (below_step y0_ hb); clear HB; have HO135 := n0_; have HB := n1_; clear n0_ n1_; clear hb ho4))
 go_loopg [5, 6] k (fun kq v5 v6 w' => ∃ (x5_1 : List Int) (x6_1 : Int), v6 = .int .i64 x6_1 ∧ Aside0 (spec_l2Kids.l0 kq l0 a1 x5_1 x6_1 = some r) ∧ Aside0 (kq ≤ k) ∧ Aside0 (Kd.R (Kd.int .i64) 2 w' w.heap.size (fun _ => True) v5 x5_1) ∧ Aside0 (Below w.heap.size w w'))
 case atStart => exact ⟨(y133), (0), y2_, H', ⟨Nat.le_refl _⟩, ⟨by (with_reducible repeat (first | apply Kd.R_alloc | apply Kd.R_drewN | apply Kd.R_drew)); exact HO135.out⟩, ⟨y0_⟩⟩
 case round =>
  clear H'; obtain ⟨x5_1, x6_1, rfl, HA, HK1, HO_5, HB⟩ := hrel; cases gk with
  | zero => exact absurd HA.out (by simp [spec_l2Kids.l0])
  | succ k1 =>
   have H := HA.out; clear HA; simp only [spec_l2Kids.l0] at H; by_cases cx0 : x6_1 < (l0.length : Int); rw [if_pos cx0] at H; have cx0b0 : decide (x6_1 < (l0.length : Int)) = true := decide_eq_true cx0; clear cx0; by_cases cx1 : 0 ≤ x6_1; rw [if_pos cx1] at H; have cx1b0 : decide (0 ≤ x6_1) = true := decide_eq_true cx1; clear cx1; by_cases cx2 : ((rd_T40 l0 x6_1).f1) = a1; rw [if_pos cx2] at H; have cx2b0 : (((rd_T40 l0 x6_1).f1) == a1) = true := beq_iff_eq.mpr cx2; have cx2b1 : (((rd_T40 l0 x6_1).f1) != a1) = false := bne_eq_false_iff_eq.mpr cx2; clear cx2; by_cases cx3 : x5_1.length < 17592186044416; rw [if_pos cx3] at H; have LMcx3 := a_ cx3; clear cx3; obtain ⟨y137, hy_⟩ : ∃ y_ : List Int, y_ = (x5_1 ++ [x6_1]) := ⟨_, rfl⟩; replace H : (spec_l2Kids.l0 k1 l0 a1 y137 (wrap64 (x6_1 + 1))) = some r := z0_; have Ny137 := a_ hy_; clear hy_; have H' := a_ H; clear H; have m0_0 := t_; have m0_1 := t_; rotate_left
   ·rw [if_neg cx3] at H; exact absurd H y50_
   rw [if_neg cx2] at H; have cx2b0 : (((rd_T40 l0 x6_1).f1) == a1) = false := beq_eq_false_iff_ne.mpr cx2; have cx2b1 : (((rd_T40 l0 x6_1).f1) != a1) = true := bne_iff_ne.mpr cx2; have H' := a_ H; clear H; have m0_0 := t_; have m0_2 := t_; rotate_left
   ·rw [if_neg cx1] at H; exact absurd H y50_
   rw [if_neg cx0] at H; have cx0b0 : decide (x6_1 < (l0.length : Int)) = false := decide_eq_false cx0; clear cx0; obtain rfl := Option.some.inj H; have m0_3 := t_; rotate_left
   all_goals (
    first
    | fail_if_success clear m0_0
    |(clear m0_0; have p9922068 : 0 ≤ (x6_1 : Int) := of_decide_eq_true y3_; have q9922068 : x6_1 < (l0.length : Int) := of_decide_eq_true y3_; obtain ⟨ad9922068, A136_2, c136_2, e9922068, hx9922068_0, hx9922068_1, hx9922068_2, hl9922068_2, hi136_2⟩ := at_T40 HR0.out x6_1 p9922068 q9922068; cases e9922068; replace hx9922068_0 := cT_ HB.out hx9922068_0; replace hx9922068_1 := cT_ HB.out hx9922068_1; replace hx9922068_2 := cT_ HB.out hx9922068_2; have HR136_2 := a_ hi136_2; have HC136_2 := a_ hl9922068_2; clear hi136_2 hl9922068_2; replace p9922068 := eq_true p9922068; replace q9922068 := eq_true q9922068)
    first
    | fail_if_success clear m0_1
    |(clear m0_1; go_wp2_with (first | ((with_reducible refine gate_builtin (b := .append) (xs := #[.tmp 21, .tmp 23]) rfl ?_); at_builtin; refine Kd.R_append (Kd.int .i64) (w0 := w) w.heap.size rfl (.tmp 21) (.tmp 23) 53 2 (.int .i64 0) 8 rfl Tryz.underlying53 info2 rfl y48_ (by omega) u5 x5_1 x6_1 [.int .i64 x6_1] (fun _ => True) (fun _ => False) rfl rfl ?aP (fun _ hk => hk.elim) ?aF ?aO ?aB ?aS ?aL ?_; (case aP => exact rfl); (case aB => exact y0_); (case aF => exact (fun _ _ => trivial)); (case aO => exact y47_); (case aS => exact (below_size y0_)); (case aL => have := LMcx3.out; omega); intro v9997075 w9091474 ho hb hg hat; rw [← Ny137.out] at ho; have n0_ := a_ (hb); have n1_ := a_ (ho); clear HB; clear HO_5; have HB := n0_; have HO9306307 := n1_; clear n0_ n1_; clear ho hb hg hat))
      go_roundg k1
      case measure => have := HK1.out; omega
      case rel => exact ⟨(y137), (wrap64 (x6_1 + 1)), y2_, H', ⟨y29_⟩, ⟨by (with_reducible repeat (first | apply Kd.R_alloc | apply Kd.R_drewN | apply Kd.R_drew)); exact HO9306307.out⟩, ⟨y0_⟩⟩)
    first
    | fail_if_success clear m0_2
    |(clear m0_2; go_wp2
      go_roundg k1
      case measure => have := HK1.out; omega
      case rel => exact ⟨(x5_1), (wrap64 (x6_1 + 1)), y2_, H', ⟨y29_⟩, ⟨y47_⟩, ⟨y0_⟩⟩)
    first
    | fail_if_success clear m0_3
    |(clear m0_3; go_wp2
      go_ret
      exact ⟨_, y6_, y47_, y0_⟩))

/-! ### spec_l2Mark: function 12 -/
def spec_l2Mark.l0 : Nat → List (S40) → Int → ByteArray → Int → Option (ByteArray)
  | 0, _, _, _, _ => none
  | k + 1, x0, x1, x6, x7 => if 0 ≤ x1 then (if x1 < (x0.length : Int) then (if x7 < (((rd_T40 x0 x1).f2).length : Int) then (if x6.size + 1 ≤ 9223372036854775807 then (if 0 ≤ x7 then (if (x6 ++ (⟨#[32]⟩ : ByteArray)).size + ((rd_T51 ((rd_T40 x0 x1).f2) x7).f0).size ≤ 9223372036854775807 then (if ((x6 ++ (⟨#[32]⟩ : ByteArray)) ++ ((rd_T51 ((rd_T40 x0 x1).f2) x7).f0)).size + 2 ≤ 9223372036854775807 then ((spec_l1Escape.f k ((rd_T51 ((rd_T40 x0 x1).f2) x7).f1)).bind fun t145 => (if (((x6 ++ (⟨#[32]⟩ : ByteArray)) ++ ((rd_T51 ((rd_T40 x0 x1).f2) x7).f0)) ++ (⟨#[61, 34]⟩ : ByteArray)).size + t145.size ≤ 9223372036854775807 then (if ((((x6 ++ (⟨#[32]⟩ : ByteArray)) ++ ((rd_T51 ((rd_T40 x0 x1).f2) x7).f0)) ++ (⟨#[61, 34]⟩ : ByteArray)) ++ t145).size + 1 ≤ 9223372036854775807 then (spec_l2Mark.l0 k x0 x1 (((((x6 ++ (⟨#[32]⟩ : ByteArray)) ++ ((rd_T51 ((rd_T40 x0 x1).f2) x7).f0)) ++ (⟨#[61, 34]⟩ : ByteArray)) ++ t145) ++ (⟨#[34]⟩ : ByteArray)) (wrap64 (x7 + 1))) else (none)) else (none))) else (none)) else (none)) else (none)) else (none)) else ((spec_l2Kids.f k x0 x1).bind fun t146 => (if (t146.length : Int) = 0 then (if x6.size + 2 ≤ 9223372036854775807 then (some (x6 ++ (⟨#[47, 62]⟩ : ByteArray))) else (none)) else (if x6.size + 1 ≤ 9223372036854775807 then (some (x6 ++ (⟨#[62]⟩ : ByteArray))) else (none))))) else (none)) else (none)
def spec_l2Mark.f (k : Nat) (l0 : List (S40)) (a1 : Int) : Option (ByteArray) := if 0 ≤ a1 then (if a1 < (l0.length : Int) then (if 1 + ((rd_T40 l0 a1).f0).size ≤ 9223372036854775807 then (spec_l2Mark.l0 k l0 a1 ((⟨#[60]⟩ : ByteArray) ++ ((rd_T40 l0 a1).f0)) 0) else (none)) else (none)) else (none)
theorem spec_l2Mark.mono_l : ∀ k, (∀ y0 y1 y2 y3, LeO (spec_l2Mark.l0 k y0 y1 y2 y3) (spec_l2Mark.l0 (k + 1) y0 y1 y2 y3))
  | 0 => fun _ _ _ _ r h => by simp [spec_l2Mark.l0] at h
  | k + 1 => by
    have ih0 := spec_l2Mark.mono_l k
    · intro y0 y1 y2 y3
      unfold spec_l2Mark.l0
      repeat' (with_reducible first | exact ih0 _ _ _ _ | exact spec_l1Escape.mono _ _ | exact spec_l2Kids.mono _ _ _ | exact LeO.refl _ | exact LeO.none _ | refine LeO.ite ?_ ?_ | refine LeO.bind ?_ (fun _ => ?_))
theorem spec_l2Mark.mono : ∀ a0 a1 k, LeO (spec_l2Mark.f k a0 a1) (spec_l2Mark.f (k + 1) a0 a1) := by
  intro a0 a1 k
  have ih0 := spec_l2Mark.mono_l k
  unfold spec_l2Mark.f
  repeat' (with_reducible first | exact ih0 _ _ _ _ | exact spec_l1Escape.mono _ _ | exact spec_l2Kids.mono _ _ _ | exact LeO.refl _ | exact LeO.none _ | refine LeO.ite ?_ ?_ | refine LeO.bind ?_ (fun _ => ?_))
set_option maxHeartbeats 8000000 in
set_option maxRecDepth 100000 in
theorem spec_l2Mark.calls (k : Nat) (A0 : Option Addr) (c0 : Nat) (l0 : List (S40)) (a1 : Int) (r : ByteArray) (w : World) (hr0 : Kd.C k40 w A0 l0.length l0) (hc0 : l0.length ≤ c0) (h : spec_l2Mark.f k l0 a1 = some r) :
    Calls Tryz.prog 12 #[.slice A0 l0.length c0, .int .i64 a1] w fun e w' => e = .returned (.string r) ∧ Below w.heap.size w w' := by
 have HR0 := a_ hr0; have HC0 := a_ hc0; clear hr0 hc0; have HB := a_ (Below.refl w.heap.size w); have H : (if 0 ≤ a1 then (if a1 < (l0.length : Int) then (if 1 + ((rd_T40 l0 a1).f0).size ≤ 9223372036854775807 then (spec_l2Mark.l0 k l0 a1 ((⟨#[60]⟩ : ByteArray) ++ ((rd_T40 l0 a1).f0)) 0) else (none)) else (none)) else (none)) = some r := h; clear h; by_cases cx0 : 0 ≤ a1
 ·rw [if_pos cx0] at H; have cx0b0 : decide (0 ≤ a1) = true := decide_eq_true cx0; clear cx0; by_cases cx1 : a1 < (l0.length : Int)
  ·rw [if_pos cx1] at H; have cx1b0 : decide (a1 < (l0.length : Int)) = true := decide_eq_true cx1; clear cx1; by_cases cx2 : 1 + ((rd_T40 l0 a1).f0).size ≤ 9223372036854775807
   ·rw [if_pos cx2] at H; have cx2b0 := eq_true cx2; have cx2b1 : decide (1 + ((rd_T40 l0 a1).f0).size ≤ 9223372036854775807) = true := decide_eq_true cx2; try have cx2b2 : (9223372036854775807 < 1 + ((rd_T40 l0 a1).f0).size) = False := eq_false (Nat.not_lt.2 cx2)
    have H' := a_ H; clear H; have p140 : 0 ≤ (a1 : Int) := of_decide_eq_true y3_; have q140 : a1 < (l0.length : Int) := of_decide_eq_true y3_; obtain ⟨ad140, A140_2, c140_2, e140, hx140_0, hx140_1, hx140_2, hl140_2, hi140_2⟩ := at_T40 HR0.out a1 p140 q140; cases e140; have HR140_2 := a_ hi140_2; have HC140_2 := a_ hl140_2; clear hi140_2 hl140_2; replace p140 := eq_true p140; replace q140 := eq_true q140; have p141 : 0 ≤ (a1 : Int) := of_decide_eq_true y3_; have q141 : a1 < (l0.length : Int) := of_decide_eq_true y3_; obtain ⟨ad141, A141_2, c141_2, e141, hx141_0, hx141_1, hx141_2, hl141_2, hi141_2⟩ := at_T40 HR0.out a1 p141 q141; obtain rfl : ad140 = ad141 := (by injection e141); have HR141_2 := a_ hi141_2; have HC141_2 := a_ hl141_2; clear hi141_2 hl141_2; replace p141 := eq_true p141; replace q141 := eq_true q141; have ea_ := Option.some.inj (hx140_2.symm.trans hx141_2); injection ea_ with ea_ en_ ec_; subst ea_; subst ec_; clear en_; go_enter Tryz.func12, Tryz.ntmps12
    go_wp2
    repeat (go_quiet (fail); try go_wp2)
    go_loopg [6, 7] k (fun kq v6 v7 w' => ∃ (x6_1 : ByteArray) (x7_1 : Int), v6 = .string x6_1 ∧ v7 = .int .i64 x7_1 ∧ Aside0 (spec_l2Mark.l0 kq l0 a1 x6_1 x7_1 = some r) ∧ Aside0 (kq ≤ k) ∧ Aside0 (Below w.heap.size w w'))
    case atStart => exact ⟨((⟨#[60]⟩ : ByteArray) ++ ((rd_T40 l0 a1).f0)), (0), y2_, y2_, H', ⟨Nat.le_refl _⟩, ⟨y0_⟩⟩
    case round =>
     clear H'; (try clear cx0); (try clear cx0b0); (try clear cx1); (try clear cx1b0); (try clear cx2); (try clear cx2b0); (try clear cx2b1); (try clear cx2b2); (try clear hx140_0); (try clear hx140_1); (try clear hx140_2); (try clear hx141_0); (try clear hx141_1); (try clear hx141_2); (try clear p140); (try clear p141); (try clear q140); (try clear q141); obtain ⟨x6_1, x7_1, rfl, rfl, HA, HK1, HB⟩ := hrel; cases gk with
     | zero => exact absurd HA.out (by simp [spec_l2Mark.l0])
     | succ k1 =>
      have H := HA.out; clear HA; simp only [spec_l2Mark.l0] at H; by_cases cx3 : 0 ≤ a1; rw [if_pos cx3] at H; have cx3b0 : decide (0 ≤ a1) = true := decide_eq_true cx3; clear cx3; by_cases cx4 : a1 < (l0.length : Int); rw [if_pos cx4] at H; have cx4b0 : decide (a1 < (l0.length : Int)) = true := decide_eq_true cx4; clear cx4; by_cases cx5 : x7_1 < (((rd_T40 l0 a1).f2).length : Int); rw [if_pos cx5] at H; have cx5b0 : decide (x7_1 < (((rd_T40 l0 a1).f2).length : Int)) = true := decide_eq_true cx5; clear cx5; by_cases cx6 : x6_1.size + 1 ≤ 9223372036854775807; rw [if_pos cx6] at H; have cx6b0 := eq_true cx6; have cx6b1 : decide (x6_1.size + 1 ≤ 9223372036854775807) = true := decide_eq_true cx6; try have cx6b2 : (9223372036854775807 < x6_1.size + 1) = False := eq_false (Nat.not_lt.2 cx6)
      by_cases cx7 : 0 ≤ x7_1; rw [if_pos cx7] at H; have cx7b0 : decide (0 ≤ x7_1) = true := decide_eq_true cx7; clear cx7; by_cases cx8 : (x6_1 ++ (⟨#[32]⟩ : ByteArray)).size + ((rd_T51 ((rd_T40 l0 a1).f2) x7_1).f0).size ≤ 9223372036854775807; rw [if_pos cx8] at H; have cx8b0 := eq_true cx8; have cx8b1 : decide ((x6_1 ++ (⟨#[32]⟩ : ByteArray)).size + ((rd_T51 ((rd_T40 l0 a1).f2) x7_1).f0).size ≤ 9223372036854775807) = true := decide_eq_true cx8; try have cx8b2 : (9223372036854775807 < (x6_1 ++ (⟨#[32]⟩ : ByteArray)).size + ((rd_T51 ((rd_T40 l0 a1).f2) x7_1).f0).size) = False := eq_false (Nat.not_lt.2 cx8)
      try have cx8b3 : (9223372036854775807 < x6_1.size + 1 + ((rd_T51 ((rd_T40 l0 a1).f2) x7_1).f0).size) = False := eq_false (Nat.not_lt.2 (by have h_ := cx8; (try simp only [ByteArray.size_append, ByteArray.size_extract] at h_); have s0_ : (⟨#[32]⟩ : ByteArray).size = 1 := rfl;  omega))
      by_cases cx9 : ((x6_1 ++ (⟨#[32]⟩ : ByteArray)) ++ ((rd_T51 ((rd_T40 l0 a1).f2) x7_1).f0)).size + 2 ≤ 9223372036854775807; rw [if_pos cx9] at H; have cx9b0 := eq_true cx9; have cx9b1 : decide (((x6_1 ++ (⟨#[32]⟩ : ByteArray)) ++ ((rd_T51 ((rd_T40 l0 a1).f2) x7_1).f0)).size + 2 ≤ 9223372036854775807) = true := decide_eq_true cx9; try have cx9b2 : (9223372036854775807 < ((x6_1 ++ (⟨#[32]⟩ : ByteArray)) ++ ((rd_T51 ((rd_T40 l0 a1).f2) x7_1).f0)).size + 2) = False := eq_false (Nat.not_lt.2 cx9)
      try have cx9b3 : (9223372036854775807 < x6_1.size + 1 + ((rd_T51 ((rd_T40 l0 a1).f2) x7_1).f0).size + 2) = False := eq_false (Nat.not_lt.2 (by have h_ := cx9; (try simp only [ByteArray.size_append, ByteArray.size_extract] at h_); have s0_ : (⟨#[32]⟩ : ByteArray).size = 1 := rfl;  omega))
      replace H := Option.bind_eq_some_iff.mp H; obtain ⟨tx10, Ay10, H⟩ := H; have Ax10 := a_ Ay10; clear Ay10; by_cases cx11 : (((x6_1 ++ (⟨#[32]⟩ : ByteArray)) ++ ((rd_T51 ((rd_T40 l0 a1).f2) x7_1).f0)) ++ (⟨#[61, 34]⟩ : ByteArray)).size + tx10.size ≤ 9223372036854775807; rw [if_pos cx11] at H; have cx11b0 := eq_true cx11; have cx11b1 : decide ((((x6_1 ++ (⟨#[32]⟩ : ByteArray)) ++ ((rd_T51 ((rd_T40 l0 a1).f2) x7_1).f0)) ++ (⟨#[61, 34]⟩ : ByteArray)).size + tx10.size ≤ 9223372036854775807) = true := decide_eq_true cx11; try have cx11b2 : (9223372036854775807 < (((x6_1 ++ (⟨#[32]⟩ : ByteArray)) ++ ((rd_T51 ((rd_T40 l0 a1).f2) x7_1).f0)) ++ (⟨#[61, 34]⟩ : ByteArray)).size + tx10.size) = False := eq_false (Nat.not_lt.2 cx11)
      try have cx11b3 : (9223372036854775807 < x6_1.size + 1 + ((rd_T51 ((rd_T40 l0 a1).f2) x7_1).f0).size + 2 + tx10.size) = False := eq_false (Nat.not_lt.2 (by have h_ := cx11; (try simp only [ByteArray.size_append, ByteArray.size_extract] at h_); have s0_ : (⟨#[32]⟩ : ByteArray).size = 1 := rfl; have s1_ : (⟨#[61, 34]⟩ : ByteArray).size = 2 := rfl;  omega))
      by_cases cx12 : ((((x6_1 ++ (⟨#[32]⟩ : ByteArray)) ++ ((rd_T51 ((rd_T40 l0 a1).f2) x7_1).f0)) ++ (⟨#[61, 34]⟩ : ByteArray)) ++ tx10).size + 1 ≤ 9223372036854775807; rw [if_pos cx12] at H; have cx12b0 := eq_true cx12; have cx12b1 : decide (((((x6_1 ++ (⟨#[32]⟩ : ByteArray)) ++ ((rd_T51 ((rd_T40 l0 a1).f2) x7_1).f0)) ++ (⟨#[61, 34]⟩ : ByteArray)) ++ tx10).size + 1 ≤ 9223372036854775807) = true := decide_eq_true cx12; try have cx12b2 : (9223372036854775807 < ((((x6_1 ++ (⟨#[32]⟩ : ByteArray)) ++ ((rd_T51 ((rd_T40 l0 a1).f2) x7_1).f0)) ++ (⟨#[61, 34]⟩ : ByteArray)) ++ tx10).size + 1) = False := eq_false (Nat.not_lt.2 cx12)
      try have cx12b3 : (9223372036854775807 < x6_1.size + 1 + ((rd_T51 ((rd_T40 l0 a1).f2) x7_1).f0).size + 2 + tx10.size + 1) = False := eq_false (Nat.not_lt.2 (by have h_ := cx12; (try simp only [ByteArray.size_append, ByteArray.size_extract] at h_); have s0_ : (⟨#[32]⟩ : ByteArray).size = 1 := rfl; have s1_ : (⟨#[61, 34]⟩ : ByteArray).size = 2 := rfl;  omega))
      have H' := a_ H; clear H; have m1_0 := t_; have m1_1 := t_; rotate_left
      ·rw [if_neg cx12] at H; exact absurd H y50_
      ·rw [if_neg cx11] at H; exact absurd H y50_
      ·rw [if_neg cx9] at H; exact absurd H y50_
      ·rw [if_neg cx8] at H; exact absurd H y50_
      ·rw [if_neg cx7] at H; exact absurd H y50_
      ·rw [if_neg cx6] at H; exact absurd H y50_
      rw [if_neg cx5] at H; have cx5b0 : decide (x7_1 < (((rd_T40 l0 a1).f2).length : Int)) = false := decide_eq_false cx5; clear cx5; replace H := Option.bind_eq_some_iff.mp H; obtain ⟨tx6, Ay6, H⟩ := H; have Ax6 := a_ Ay6; clear Ay6; by_cases cx7 : (tx6.length : Int) = 0; rw [if_pos cx7] at H; have cx7b0 : ((tx6.length : Int) == 0) = true := beq_iff_eq.mpr cx7; have cx7b1 : ((tx6.length : Int) != 0) = false := bne_eq_false_iff_eq.mpr cx7; clear cx7; by_cases cx8 : x6_1.size + 2 ≤ 9223372036854775807; rw [if_pos cx8] at H; have cx8b0 := eq_true cx8; have cx8b1 : decide (x6_1.size + 2 ≤ 9223372036854775807) = true := decide_eq_true cx8; try have cx8b2 : (9223372036854775807 < x6_1.size + 2) = False := eq_false (Nat.not_lt.2 cx8)
      obtain rfl := Option.some.inj H; have m1_2 := t_; rotate_left
      ·rw [if_neg cx8] at H; exact absurd H y50_
      rw [if_neg cx7] at H; have cx7b0 : ((tx6.length : Int) == 0) = false := beq_eq_false_iff_ne.mpr cx7; have cx7b1 : ((tx6.length : Int) != 0) = true := bne_iff_ne.mpr cx7; have cx7b2 : ¬ (tx6 = []) := fun h_ => cx7 (by rw [h_]; rfl); by_cases cx8 : x6_1.size + 1 ≤ 9223372036854775807; rw [if_pos cx8] at H; have cx8b0 := eq_true cx8; have cx8b1 : decide (x6_1.size + 1 ≤ 9223372036854775807) = true := decide_eq_true cx8; try have cx8b2 : (9223372036854775807 < x6_1.size + 1) = False := eq_false (Nat.not_lt.2 cx8)
      obtain rfl := Option.some.inj H; have m1_3 := t_; rotate_left
      ·rw [if_neg cx8] at H; exact absurd H y50_
      ·rw [if_neg cx4] at H; exact absurd H y50_
      ·rw [if_neg cx3] at H; exact absurd H y50_
      all_goals (
       have p9922068 : 0 ≤ (a1 : Int) := of_decide_eq_true y3_; have q9922068 : a1 < (l0.length : Int) := of_decide_eq_true y3_; (try clear hx140_0 hx140_1 hx140_2); (try clear hx141_0 hx141_1 hx141_2)
       obtain ⟨ad9922068, A142_2, c142_2, e9922068, hx9922068_0, hx9922068_1, hx9922068_2, hl9922068_2, hi142_2⟩ := at_T40 HR0.out a1 p9922068 q9922068; obtain rfl : ad140 = ad9922068 := (by injection e9922068); replace hx9922068_0 := cT_ HB.out hx9922068_0; replace hx9922068_1 := cT_ HB.out hx9922068_1; replace hx9922068_2 := cT_ HB.out hx9922068_2; have HR142_2 := a_ hi142_2; have HC142_2 := a_ hl9922068_2; clear hi142_2 hl9922068_2; replace p9922068 := eq_true p9922068; replace q9922068 := eq_true q9922068
       first
       | fail_if_success clear m1_0
       |(clear m1_0; have p9548309 : 0 ≤ (x7_1 : Int) := of_decide_eq_true y3_; have q9548309 : x7_1 < (((rd_T40 l0 a1).f2).length : Int) := of_decide_eq_true y3_; obtain ⟨ad9548309, e9548309, hx9548309_0, hx9548309_1⟩ := at_T51 HR142_2.out x7_1 p9548309 q9548309; cases e9548309; replace hx9548309_0 := cT_ HB.out hx9548309_0; replace hx9548309_1 := cT_ HB.out hx9548309_1; replace p9548309 := eq_true p9548309; replace q9548309 := eq_true q9548309; have p9058667 : 0 ≤ (x7_1 : Int) := of_decide_eq_true y3_; have q9058667 : x7_1 < (((rd_T40 l0 a1).f2).length : Int) := of_decide_eq_true y3_; obtain ⟨ad9058667, e9058667, hx9058667_0, hx9058667_1⟩ := at_T51 HR142_2.out x7_1 p9058667 q9058667; obtain rfl : ad9548309 = ad9058667 := (by injection e9058667); replace hx9058667_0 := cT_ HB.out hx9058667_0; replace hx9058667_1 := cT_ HB.out hx9058667_1; replace p9058667 := eq_true p9058667; replace q9058667 := eq_true q9058667)
       go_wp2_with (first | (go_at_call 25; (with_reducible refine (spec_l1Escape.calls k1 ((rd_T51 ((rd_T40 l0 a1).f2) x7_1).f1) tx10 _ Ax10.out).mono ?_); rintro e w' ⟨rfl, ⟨nd, rfl⟩⟩; (try first | exact ⟨rfl, _, World.drewN_drewN _ _ _⟩ | exact ⟨rfl, _, Eq.trans (World.drewN_drewN _ _ _) (congrArg (World.drewN _) (Nat.add_assoc _ _ _))⟩)) | (go_at_call 26; (with_reducible refine (spec_l2Kids.calls k1 _ _ l0 a1 tx6 _ ?side1 ?side2 Ax6.out).mono ?_); (case side1 => repeat (first | exact (Kd.C_below HR0.out HB.out) | (with_reducible refine Kd.C_alloc ?_ _) | (with_reducible refine Kd.C_drewN ?_ _) | (with_reducible refine Kd.C_drew ?_))); (case side2 => exact HC0.out); rintro e w9162232 ⟨v9631120, rfl, ho0, hb⟩; have n0_ := a_ (Kd.R_lower ho0 (below_size y0_)); have n1_ := a_ (below_step y0_ hb); clear HB; have HO9816012 := n0_; have HB := n1_; clear n0_ n1_; (try clear hb); (try clear hb9197257); (try clear hk); (try clear hi); (try clear ho0); obtain ⟨Ao9501455, co9501455, eo9501455⟩ := Kd.R_slice HO9816012.out; subst eo9501455) | go_quiet (first | (go_at_call 25; (with_reducible refine (spec_l1Escape.calls k1 ((rd_T51 ((rd_T40 l0 a1).f2) x7_1).f1) tx10 _ Ax10.out).mono ?_); rintro e w' ⟨rfl, ⟨nd, rfl⟩⟩; (try first | exact ⟨rfl, _, World.drewN_drewN _ _ _⟩ | exact ⟨rfl, _, Eq.trans (World.drewN_drewN _ _ _) (congrArg (World.drewN _) (Nat.add_assoc _ _ _))⟩))))
       first
       | fail_if_success clear m1_1
       |(clear m1_1; go_roundg k1
         case measure => have := HK1.out; omega
         case rel => exact ⟨(((((x6_1 ++ (⟨#[32]⟩ : ByteArray)) ++ ((rd_T51 ((rd_T40 l0 a1).f2) x7_1).f0)) ++ (⟨#[61, 34]⟩ : ByteArray)) ++ tx10) ++ (⟨#[34]⟩ : ByteArray)), (wrap64 (x7_1 + 1)), y2_, y2_, H', ⟨y29_⟩, ⟨y0_⟩⟩)
       first
       | fail_if_success clear m1_2
       |(clear m1_2; go_ret
         exact ⟨y6_, y0_⟩)
       first
       | fail_if_success clear m1_3
       |(clear m1_3; go_ret
         exact ⟨y6_, y0_⟩))
   ·rw [if_neg cx2] at H; exact absurd H y50_
  ·rw [if_neg cx1] at H; exact absurd H y50_
 ·rw [if_neg cx0] at H; exact absurd H y50_

end Go.Proofs.YthoamjobclfjjaaGreat.R
