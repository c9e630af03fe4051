-- Written by a program of this session's own (xp.py) for this seat.
import Derived.Test.YtjbcpghpafacaaaIZ
import Derived.Test.YtjbcpghpafacaaaI0
import Derived.Test.YtjbcpghpafacaaaI5
import Derived.Test.YtjbcpghpafacaaaI6
namespace Go.Proofs.Ytjbcpghpafacaaa.I
open Go.RowKit Go.Proofs.YtjbcpghpafacaaaW.PrintWords Go.Proofs.YtjbcpghpafacaaaW.PrintLast Go.Proofs.YtjbcpghpafacaaaW.PrintMore
attribute [local go_sem] Instr.field asAgg
attribute [local go_sem] max2_int min2_int max_two min_two max_three min_three max_four min_four   -- for this text's walks alone
set_option linter.unusedVariables false
set_option linter.unusedSimpArgs false

/-! ### spec_l4One: function 20 -/
mutual
def spec_l4One.j0 : Nat → List (S37) → Int → Bool → Option (Int)
  | 0, _, _, _ => none
  | k + 1, x0, x1, x20 => if x20 = true then (some 1) else (if x1 = 0 then (if 0 ≤ x1 then (if x1 < (x0.length : Int) then (if ((rd_T37 x0 x1).f1) = (-1) then (if x1 > 0 then ((spec_l1In.f ((rd_T37 x0 x1).f1) 0 (wrap64 (x1 - 1))).bind fun t159 => (spec_l4One.j1 k x0 x1 (!t159))) else (spec_l4One.j1 k x0 x1 false)) else (spec_l4One.j1 k x0 x1 true)) else (none)) else (none)) else (if x1 > 0 then (if 0 ≤ x1 then (if x1 < (x0.length : Int) then ((spec_l1In.f ((rd_T37 x0 x1).f1) 0 (wrap64 (x1 - 1))).bind fun t161 => (spec_l4One.j1 k x0 x1 (!t161))) else (none)) else (none)) else (spec_l4One.j1 k x0 x1 false)))
def spec_l4One.j1 : Nat → List (S37) → Int → Bool → Option (Int)
  | 0, _, _, _ => none
  | k + 1, x0, x1, x43 => if x43 = true then (some 3) else (if x1 > 0 then ((spec_l4Line.f k x0 x1).bind fun t162 => (spec_l4One.j2 k x0 x1 (!t162))) else (spec_l4One.j2 k x0 x1 false))
def spec_l4One.j2 : Nat → List (S37) → Int → Bool → Option (Int)
  | 0, _, _, _ => none
  | k + 1, x0, x1, x51 => if x51 = true then (some 1) else ((spec_l4Deep.f k x0 x1).bind fun t163 => (if t163 > 7 then (some 2) else (if 0 ≤ x1 then (if x1 < (x0.length : Int) then (if ((rd_T37 x0 x1).f0) = 2 then ((spec_l1Name.f k ((rd_T37 x0 x1).f2)).bind fun t165 => (if t165 = 0 then (spec_l4One.j3 k x0 x1) else (some t165))) else (spec_l4One.j3 k x0 x1)) else (none)) else (none))))
def spec_l4One.j3 : Nat → List (S37) → Int → Option (Int)
  | 0, _, _ => none
  | k + 1, x0, x1 => (spec_l4Arg.f k (rd_T37 x0 x1)).bind fun t166 => (if t166 = true then (if 0 ≤ x1 then (if x1 < (x0.length : Int) then (if ((rd_T37 x0 x1).f0) = 7 then ((spec_l3Fault.f k ((rd_T37 x0 x1).f5)).bind fun t168 => (some t168)) else (some 0)) else (none)) else (none)) else (some 3))
end
def spec_l4One.f (k : Nat) (l0 : List (S37)) (a1 : Int) : Option (Int) := if 0 ≤ a1 then (if a1 < (l0.length : Int) then ((spec_l1In.f ((rd_T37 l0 a1).f0) 1 8).bind fun t156 => (if t156 = true then ((spec_l4Bare.f (rd_T37 l0 a1)).bind fun t157 => (spec_l4One.j0 k l0 a1 (!t157))) else (spec_l4One.j0 k l0 a1 true))) else (none)) else (none)
theorem spec_l4One.mono_l : ∀ k, (∀ y0 y1 y2, LeO (spec_l4One.j0 k y0 y1 y2) (spec_l4One.j0 (k + 1) y0 y1 y2)) ∧ (∀ y0 y1 y2, LeO (spec_l4One.j1 k y0 y1 y2) (spec_l4One.j1 (k + 1) y0 y1 y2)) ∧ (∀ y0 y1 y2, LeO (spec_l4One.j2 k y0 y1 y2) (spec_l4One.j2 (k + 1) y0 y1 y2)) ∧ (∀ y0 y1, LeO (spec_l4One.j3 k y0 y1) (spec_l4One.j3 (k + 1) y0 y1))
  | 0 => ⟨fun _ _ _ r h => by simp [spec_l4One.j0] at h, fun _ _ _ r h => by simp [spec_l4One.j1] at h, fun _ _ _ r h => by simp [spec_l4One.j2] at h, fun _ _ r h => by simp [spec_l4One.j3] at h⟩
  | k + 1 => by
    obtain ⟨ih0, ih1, ih2, ih3⟩ := spec_l4One.mono_l k
    refine ⟨?_, ?_, ?_, ?_⟩
    · intro y0 y1 y2
      unfold spec_l4One.j0
      repeat' (with_reducible first | exact ih0 _ _ _ | exact ih1 _ _ _ | exact ih2 _ _ _ | exact ih3 _ _ | exact spec_l1Name.mono _ _ | exact spec_l3Fault.mono _ _ | exact spec_l4Arg.mono _ _ | exact spec_l4Deep.mono _ _ _ | exact spec_l4Line.mono _ _ _ | exact LeO.refl _ | exact LeO.none _ | refine LeO.ite ?_ ?_ | refine LeO.bind ?_ (fun _ => ?_))
    · intro y0 y1 y2
      unfold spec_l4One.j1
      repeat' (with_reducible first | exact ih0 _ _ _ | exact ih1 _ _ _ | exact ih2 _ _ _ | exact ih3 _ _ | exact spec_l1Name.mono _ _ | exact spec_l3Fault.mono _ _ | exact spec_l4Arg.mono _ _ | exact spec_l4Deep.mono _ _ _ | exact spec_l4Line.mono _ _ _ | exact LeO.refl _ | exact LeO.none _ | refine LeO.ite ?_ ?_ | refine LeO.bind ?_ (fun _ => ?_))
    · intro y0 y1 y2
      unfold spec_l4One.j2
      repeat' (with_reducible first | exact ih0 _ _ _ | exact ih1 _ _ _ | exact ih2 _ _ _ | exact ih3 _ _ | exact spec_l1Name.mono _ _ | exact spec_l3Fault.mono _ _ | exact spec_l4Arg.mono _ _ | exact spec_l4Deep.mono _ _ _ | exact spec_l4Line.mono _ _ _ | exact LeO.refl _ | exact LeO.none _ | refine LeO.ite ?_ ?_ | refine LeO.bind ?_ (fun _ => ?_))
    · intro y0 y1
      unfold spec_l4One.j3
      repeat' (with_reducible first | exact ih0 _ _ _ | exact ih1 _ _ _ | exact ih2 _ _ _ | exact ih3 _ _ | exact spec_l1Name.mono _ _ | exact spec_l3Fault.mono _ _ | exact spec_l4Arg.mono _ _ | exact spec_l4Deep.mono _ _ _ | exact spec_l4Line.mono _ _ _ | exact LeO.refl _ | exact LeO.none _ | refine LeO.ite ?_ ?_ | refine LeO.bind ?_ (fun _ => ?_))
theorem spec_l4One.mono : ∀ a0 a1 k, LeO (spec_l4One.f k a0 a1) (spec_l4One.f (k + 1) a0 a1) := by
  intro a0 a1 k
  obtain ⟨ih0, ih1, ih2, ih3⟩ := spec_l4One.mono_l k
  unfold spec_l4One.f
  repeat' (with_reducible first | exact ih0 _ _ _ | exact ih1 _ _ _ | exact ih2 _ _ _ | exact ih3 _ _ | exact spec_l1Name.mono _ _ | exact spec_l3Fault.mono _ _ | exact spec_l4Arg.mono _ _ | exact spec_l4Deep.mono _ _ _ | exact spec_l4Line.mono _ _ _ | exact LeO.refl _ | exact LeO.none _ | refine LeO.ite ?_ ?_ | refine LeO.bind ?_ (fun _ => ?_))
set_option maxHeartbeats 8000000 in
set_option maxRecDepth 100000 in
theorem spec_l4One.calls (k : Nat) (A0 : Option Addr) (c0 : Nat) (l0 : List (S37)) (a1 : Int) (r : Int) (w : World) (hr0 : Kd.C k37 w A0 l0.length l0) (hc0 : l0.length ≤ c0) (h : spec_l4One.f k l0 a1 = some r) :
    Calls Try.prog 20 #[.slice A0 l0.length c0, .int .i64 a1] w fun e w' => e = .returned (.int .i64 r) ∧ Below w.heap.size w w' := by
 have HR0 := a_ hr0; have HC0 := a_ hc0; clear hr0 hc0; have HB := a_ (Below.refl w.heap.size w); have H : (if 0 ≤ a1 then (if a1 < (l0.length : Int) then ((spec_l1In.f ((rd_T37 l0 a1).f0) 1 8).bind fun t156 => (if t156 = true then ((spec_l4Bare.f (rd_T37 l0 a1)).bind fun t157 => (spec_l4One.j0 k l0 a1 (!t157))) else (spec_l4One.j0 k l0 a1 true))) else (none)) else (none)) = some r := h; clear h; by_cases cx0 : 0 ≤ a1
 ·rw [if_pos cx0] at H; have cx0b0 : decide (0 ≤ a1) = true := decide_eq_true cx0; clear cx0; by_cases cx1 : a1 < (l0.length : Int)
  ·rw [if_pos cx1] at H; have cx1b0 : decide (a1 < (l0.length : Int)) = true := decide_eq_true cx1; clear cx1; have HC5 := a_ H; clear H; have p154 : 0 ≤ (a1 : Int) := of_decide_eq_true y2_; have q154 : a1 < (l0.length : Int) := of_decide_eq_true y2_; have BD154 := a_ (And.intro p154 q154); obtain ⟨ad154, A154_4, c154_4, A154_5, c154_5, e154, hx154_0, hx154_1, hx154_2, hx154_3, hx154_4, hx154_5, hl154_4, hi154_4, hl154_5, hi154_5⟩ := at_T37 HR0.out a1 p154 q154; cases e154; have HR154_4 := a_ hi154_4; have HC154_4 := a_ hl154_4; clear hi154_4 hl154_4; have HR154_5 := a_ hi154_5; have HC154_5 := a_ hl154_5; clear hi154_5 hl154_5; replace p154 := eq_true p154; replace q154 := eq_true q154; go_enter Try.func20, Try.ntmps20
   go_upto_region 2 with (fail)
   go_cut [20] (fun v20 wc => ∃ (kq : Nat) (x20_4 : Bool), v20 = .bool x20_4 ∧ Aside0 (spec_l4One.j0 kq l0 a1 x20_4 = some r) ∧ Aside0 (kq ≤ k) ∧ Aside0 (Below w.heap.size w wc))
   case first =>
    have H := HC5.out; clear HC5; replace H := Option.bind_eq_some_iff.mp H; obtain ⟨tx2, Ay2, H⟩ := H; have Ax2 := a_ Ay2; clear Ay2; by_cases cx3 : tx2 = true; subst cx3; rw [if_pos rfl] at H; replace H := Option.bind_eq_some_iff.mp H; obtain ⟨tx4, Ay4, H⟩ := H; have Ax4 := a_ Ay4; clear Ay4; have H' := a_ H; clear H; have m1_0 := t_; rotate_left; replace cx3 := Bool.eq_false_iff.mpr cx3; subst cx3; rw [if_neg (show ¬ (false = true) by decide)] at H; have H' := a_ H; clear H; have m1_1 := t_; rotate_left
    all_goals (
     have p9922068 : 0 ≤ (a1 : Int) := of_decide_eq_true y2_; have q9922068 : a1 < (l0.length : Int) := of_decide_eq_true y2_; obtain ⟨ad9922068, A155_4, c155_4, A155_5, c155_5, e9922068, hx9922068_0, hx9922068_1, hx9922068_2, hx9922068_3, hx9922068_4, hx9922068_5, hl9922068_4, hi155_4, hl9922068_5, hi155_5⟩ := at_T37 HR0.out a1 p9922068 q9922068; obtain rfl : ad154 = ad9922068 := (by injection e9922068); replace hx9922068_0 := cT_ HB.out hx9922068_0; replace hx9922068_1 := cT_ HB.out hx9922068_1; replace hx9922068_2 := cT_ HB.out hx9922068_2; replace hx9922068_3 := cT_ HB.out hx9922068_3; replace hx9922068_4 := cT_ HB.out hx9922068_4; replace hx9922068_5 := cT_ HB.out hx9922068_5; have HR155_4 := a_ hi155_4; have HC155_4 := a_ hl9922068_4; clear hi155_4 hl9922068_4; have HR155_5 := a_ hi155_5; have HC155_5 := a_ hl9922068_5; clear hi155_5 hl9922068_5; replace p9922068 := eq_true p9922068; replace q9922068 := eq_true q9922068; go_wp2_with (first | ((with_reducible refine gate_callee (f := 36) rfl ?_); refine gc_ 36 14 Try.func36 #[.int .i64 ((rd_T37 l0 a1).f0), .int .i64 1, .int .i64 8] ?_; (with_reducible refine (spec_l1In.calls ((rd_T37 l0 a1).f0) 1 8 _ _ Ax2.out).mono ?_); rintro e w' ⟨rfl, ⟨nd, rfl⟩⟩; refine ⟨_, rfl, ?_⟩) | (go_at_call 37; (with_reducible refine (spec_l4Bare.calls _ (rd_T37 l0 a1) tx4 _ ?side1 Ax4.out).mono ?_); (case side1 => refine C_one (by repeat (first | exact (Kd.C_below HR0.out y0_) | (with_reducible refine Kd.C_alloc ?_ _) | (with_reducible refine Kd.C_drewN ?_ _) | (with_reducible refine Kd.C_drew ?_))) a1 (by first | exact BD154.out.1 | omega | exact of_decide_eq_true y2_) (by first | exact BD154.out.2 | exact of_decide_eq_true y2_ | omega) _ rfl); rintro e w' ⟨rfl, ⟨nd, rfl⟩⟩))
     go_meet
     first
     | fail_if_success clear m1_0
     |(clear m1_0
       case rel => exact ⟨_, (!tx4), y1_, H', ⟨y45_⟩, ⟨y0_⟩⟩)
     first
     | fail_if_success clear m1_1
     |(clear m1_1
       case rel => exact ⟨_, (true), y1_, H', ⟨y45_⟩, ⟨y0_⟩⟩))
   case rest =>
    clear HC5; (try clear cx0); (try clear cx0b0); (try clear cx1); (try clear cx1b0); (try clear hx154_0); (try clear hx154_1); (try clear hx154_2); (try clear hx154_3); (try clear hx154_4); (try clear hx154_5); (try clear p154); (try clear q154); obtain ⟨kq, x20_4, rfl, HA, HJ4, HB⟩ := hcut; cases kq with
    | zero => exact absurd HA.out (by simp [spec_l4One.j0])
    | succ kj4 =>
     have H := HA.out; clear HA; simp only [spec_l4One.j0] at H; by_cases cx2 : x20_4 = true
     ·subst cx2; rw [if_pos rfl] at H; obtain rfl := Option.some.inj H; go_wp2
      go_ret
      exact ⟨y4_, y0_⟩
     ·replace cx2 := Bool.eq_false_iff.mpr cx2; subst cx2; rw [if_neg (show ¬ (false = true) by decide)] at H; have HC10 := a_ H; clear H; go_upto_region 4 with (fail)
      go_cut [43] (fun v43 wc => ∃ (kq : Nat) (x43_9 : Bool), v43 = .bool x43_9 ∧ Aside0 (spec_l4One.j1 kq l0 a1 x43_9 = some r) ∧ Aside0 (kq ≤ kj4) ∧ Aside0 (Below w.heap.size w wc))
      case first =>
       have H := HC10.out; clear HC10; by_cases cx3 : a1 = 0; rw [if_pos cx3] at H; have cx3b0 : (a1 == 0) = true := beq_iff_eq.mpr cx3; have cx3b1 : (a1 != 0) = false := bne_eq_false_iff_eq.mpr cx3; clear cx3; (first | rw [cx3b0] | (simp only [i64_w, i32_w]; rw [cx3b0]) | skip); by_cases cx4 : 0 ≤ a1; rw [if_pos cx4] at H; have cx4b0 : decide (0 ≤ a1) = true := decide_eq_true cx4; clear cx4; by_cases cx5 : a1 < (l0.length : Int); rw [if_pos cx5] at H; have cx5b0 : decide (a1 < (l0.length : Int)) = true := decide_eq_true cx5; clear cx5; by_cases cx6 : ((rd_T37 l0 a1).f1) = (-1); rw [if_pos cx6] at H; have cx6b0 : (((rd_T37 l0 a1).f1) == (-1)) = true := beq_iff_eq.mpr cx6; have cx6b1 : (((rd_T37 l0 a1).f1) != (-1)) = false := bne_eq_false_iff_eq.mpr cx6; clear cx6; by_cases cx7 : a1 > 0; rw [if_pos cx7] at H; have cx7b0 : decide (0 < a1) = true := decide_eq_true cx7; clear cx7; replace H := Option.bind_eq_some_iff.mp H; obtain ⟨tx8, Ay8, H⟩ := H; have Ax8 := a_ Ay8; clear Ay8; have H' := a_ H; clear H; have m2_0 := t_; have m2_1 := t_; have m2_3 := t_; have m2_4 := t_; have m2_6 := t_; have m2_7 := t_; have m2_8 := t_; have m2_10 := t_; rotate_left; rw [if_neg cx7] at H; have cx7b0 : decide (0 < a1) = false := decide_eq_false cx7; clear cx7; have H' := a_ H; clear H; have m2_0 := t_; have m2_1 := t_; have m2_3 := t_; have m2_4 := t_; have m2_6 := t_; have m2_11 := t_; rotate_left; rw [if_neg cx6] at H; have cx6b0 : (((rd_T37 l0 a1).f1) == (-1)) = false := beq_eq_false_iff_ne.mpr cx6; have cx6b1 : (((rd_T37 l0 a1).f1) != (-1)) = true := bne_iff_ne.mpr cx6; have H' := a_ H; clear H; have m2_0 := t_; have m2_1 := t_; have m2_3 := t_; have m2_4 := t_; have m2_6 := t_; have m2_12 := t_; rotate_left
       ·rw [if_neg cx5] at H; exact absurd H y57_
       ·rw [if_neg cx4] at H; exact absurd H y57_
       rw [if_neg cx3] at H; have cx3b0 : (a1 == 0) = false := beq_eq_false_iff_ne.mpr cx3; have cx3b1 : (a1 != 0) = true := bne_iff_ne.mpr cx3; (first | rw [cx3b0] | (simp only [i64_w, i32_w]; rw [cx3b0]) | skip); by_cases cx4 : a1 > 0; rw [if_pos cx4] at H; have cx4b0 : decide (0 < a1) = true := decide_eq_true cx4; clear cx4; by_cases cx5 : 0 ≤ a1; rw [if_pos cx5] at H; have cx5b0 : decide (0 ≤ a1) = true := decide_eq_true cx5; clear cx5; by_cases cx6 : a1 < (l0.length : Int); rw [if_pos cx6] at H; have cx6b0 : decide (a1 < (l0.length : Int)) = true := decide_eq_true cx6; clear cx6; replace H := Option.bind_eq_some_iff.mp H; obtain ⟨tx7, Ay7, H⟩ := H; have Ax7 := a_ Ay7; clear Ay7; have H' := a_ H; clear H; have m2_0 := t_; have m2_2 := t_; have m2_3 := t_; have m2_5 := t_; have m2_6 := t_; have m2_7 := t_; have m2_9 := t_; have m2_13 := t_; rotate_left
       ·rw [if_neg cx6] at H; exact absurd H y57_
       ·rw [if_neg cx5] at H; exact absurd H y57_
       rw [if_neg cx4] at H; have cx4b0 : decide (0 < a1) = false := decide_eq_false cx4; clear cx4; have H' := a_ H; clear H; have m2_11 := t_; rotate_left
       all_goals (
        first
        | fail_if_success clear m2_0
        |(clear m2_0; have p9922068 : 0 ≤ (a1 : Int) := of_decide_eq_true y2_; have q9922068 : a1 < (l0.length : Int) := of_decide_eq_true y2_)
        first
        | fail_if_success clear m2_1
        |(clear m2_1; obtain ⟨ad9922068, A158_4, c158_4, A158_5, c158_5, e9922068, hx9922068_0, hx9922068_1, hx9922068_2, hx9922068_3, hx9922068_4, hx9922068_5, hl9922068_4, hi158_4, hl9922068_5, hi158_5⟩ := at_T37 HR0.out a1 p9922068 q9922068)
        first
        | fail_if_success clear m2_2
        |(clear m2_2; obtain ⟨ad9922068, A160_4, c160_4, A160_5, c160_5, e9922068, hx9922068_0, hx9922068_1, hx9922068_2, hx9922068_3, hx9922068_4, hx9922068_5, hl9922068_4, hi160_4, hl9922068_5, hi160_5⟩ := at_T37 HR0.out a1 p9922068 q9922068)
        first
        | fail_if_success clear m2_3
        |(clear m2_3; obtain rfl : ad154 = ad9922068 := (by injection e9922068); replace hx9922068_0 := cT_ HB.out hx9922068_0; replace hx9922068_1 := cT_ HB.out hx9922068_1; replace hx9922068_2 := cT_ HB.out hx9922068_2; replace hx9922068_3 := cT_ HB.out hx9922068_3; replace hx9922068_4 := cT_ HB.out hx9922068_4; replace hx9922068_5 := cT_ HB.out hx9922068_5)
        first
        | fail_if_success clear m2_4
        |(clear m2_4; have HR158_4 := a_ hi158_4; have HC158_4 := a_ hl9922068_4; clear hi158_4 hl9922068_4; have HR158_5 := a_ hi158_5; have HC158_5 := a_ hl9922068_5; clear hi158_5 hl9922068_5)
        first
        | fail_if_success clear m2_5
        |(clear m2_5; have HR160_4 := a_ hi160_4; have HC160_4 := a_ hl9922068_4; clear hi160_4 hl9922068_4; have HR160_5 := a_ hi160_5; have HC160_5 := a_ hl9922068_5; clear hi160_5 hl9922068_5)
        first
        | fail_if_success clear m2_6
        |(clear m2_6; replace p9922068 := eq_true p9922068; replace q9922068 := eq_true q9922068)
        first
        | fail_if_success clear m2_7
        |(clear m2_7; go_wp2_with (first | (have mkq_ := m2_8; clear mkq_; go_at_call 36; (with_reducible refine (spec_l1In.calls ((rd_T37 l0 a1).f1) 0 (wrap64 (a1 - 1)) tx8 _ Ax8.out).mono ?_); rintro e w' ⟨rfl, ⟨nd, rfl⟩⟩) | (have mkq_ := m2_9; clear mkq_; go_at_call 36; (with_reducible refine (spec_l1In.calls ((rd_T37 l0 a1).f1) 0 (wrap64 (a1 - 1)) tx7 _ Ax7.out).mono ?_); rintro e w' ⟨rfl, ⟨nd, rfl⟩⟩))
          go_meet)
        first
        | fail_if_success clear m2_10
        |(clear m2_10
          case rel => exact ⟨_, (!tx8), y1_, H', ⟨y89_⟩, ⟨y0_⟩⟩)
        first
        | fail_if_success clear m2_11
        |(clear m2_11; go_wp2
          go_meet
          case rel => exact ⟨_, (false), y1_, H', ⟨y89_⟩, ⟨y0_⟩⟩)
        first
        | fail_if_success clear m2_12
        |(clear m2_12; go_wp2
          go_meet
          case rel => exact ⟨_, (true), y1_, H', ⟨y89_⟩, ⟨y0_⟩⟩)
        first
        | fail_if_success clear m2_13
        |(clear m2_13
          case rel => exact ⟨_, (!tx7), y1_, H', ⟨y89_⟩, ⟨y0_⟩⟩))
      case rest =>
       clear HC10; (try clear cx0); (try clear cx0b0); (try clear cx1); (try clear cx1b0); (try clear cx2); (try clear hx154_0); (try clear hx154_1); (try clear hx154_2); (try clear hx154_3); (try clear hx154_4); (try clear hx154_5); (try clear p154); (try clear q154); obtain ⟨kq, x43_9, rfl, HA, HJ9, HB⟩ := hcut; cases kq with
       | zero => exact absurd HA.out (by simp [spec_l4One.j1])
       | succ kj9 =>
        have H := HA.out; clear HA; simp only [spec_l4One.j1] at H; by_cases cx3 : x43_9 = true
        ·subst cx3; rw [if_pos rfl] at H; obtain rfl := Option.some.inj H; go_wp2
         go_ret
         exact ⟨y4_, y0_⟩
        ·replace cx3 := Bool.eq_false_iff.mpr cx3; subst cx3; rw [if_neg (show ¬ (false = true) by decide)] at H; have HC22 := a_ H; clear H; go_upto_region 6 with (fail)
         go_cut [51] (fun v51 wc => ∃ (kq : Nat) (x51_21 : Bool), v51 = .bool x51_21 ∧ Aside0 (spec_l4One.j2 kq l0 a1 x51_21 = some r) ∧ Aside0 (kq ≤ kj9) ∧ Aside0 (Below w.heap.size w wc))
         case first =>
          have H := HC22.out; clear HC22; by_cases cx4 : a1 > 0
          ·rw [if_pos cx4] at H; have cx4b0 : decide (0 < a1) = true := decide_eq_true cx4; clear cx4; (first | rw [cx4b0] | (simp only [i64_w, i32_w]; rw [cx4b0]) | skip); replace H := Option.bind_eq_some_iff.mp H; obtain ⟨tx5, Ay5, H⟩ := H; have Ax5 := a_ Ay5; clear Ay5; have H' := a_ H; clear H; go_wp2_with (first | (go_at_call 38; (with_reducible refine (spec_l4Line.calls kj9 _ _ l0 a1 tx5 _ ?side1 ?side2 Ax5.out).mono ?_); (case side1 => repeat (first | exact (Kd.C_below HR0.out HB.out) | (with_reducible refine Kd.C_alloc ?_ _) | (with_reducible refine Kd.C_drewN ?_ _) | (with_reducible refine Kd.C_drew ?_))); (case side2 => exact HC0.out); rintro e w' ⟨rfl, ⟨nd, rfl⟩⟩))
           go_meet
           case rel => exact ⟨_, (!tx5), y1_, H', ⟨by have := HJ4.out; have := HJ9.out; first | omega | exact Nat.le_refl _⟩, ⟨y0_⟩⟩
          ·rw [if_neg cx4] at H; have cx4b0 : decide (0 < a1) = false := decide_eq_false cx4; clear cx4; (first | rw [cx4b0] | (simp only [i64_w, i32_w]; rw [cx4b0]) | skip); have H' := a_ H; clear H; go_wp2
           go_meet
           case rel => exact ⟨_, (false), y1_, H', ⟨by have := HJ4.out; have := HJ9.out; first | omega | exact Nat.le_refl _⟩, ⟨y0_⟩⟩
         case rest =>
          clear HC22; (try clear cx0); (try clear cx0b0); (try clear cx1); (try clear cx1b0); (try clear cx2); (try clear cx3); (try clear hx154_0); (try clear hx154_1); (try clear hx154_2); (try clear hx154_3); (try clear hx154_4); (try clear hx154_5); (try clear p154); (try clear q154); obtain ⟨kq, x51_21, rfl, HA, HJ21, HB⟩ := hcut; cases kq with
          | zero => exact absurd HA.out (by simp [spec_l4One.j2])
          | succ kj21 =>
           have H := HA.out; clear HA; simp only [spec_l4One.j2] at H; by_cases cx4 : x51_21 = true; subst cx4; rw [if_pos rfl] at H; obtain rfl := Option.some.inj H; have m3_0 := t_; rotate_left; replace cx4 := Bool.eq_false_iff.mpr cx4; subst cx4; rw [if_neg (show ¬ (false = true) by decide)] at H; replace H := Option.bind_eq_some_iff.mp H; obtain ⟨tx5, Ay5, H⟩ := H; have Ax5 := a_ Ay5; clear Ay5; by_cases cx6 : tx5 > 7; rw [if_pos cx6] at H; have cx6b0 : decide (7 < tx5) = true := decide_eq_true cx6; clear cx6; obtain rfl := Option.some.inj H; have m3_1 := t_; rotate_left; rw [if_neg cx6] at H; have cx6b0 : decide (7 < tx5) = false := decide_eq_false cx6; clear cx6; by_cases cx7 : 0 ≤ a1; rw [if_pos cx7] at H; have cx7b0 : decide (0 ≤ a1) = true := decide_eq_true cx7; clear cx7; by_cases cx8 : a1 < (l0.length : Int); rw [if_pos cx8] at H; have cx8b0 : decide (a1 < (l0.length : Int)) = true := decide_eq_true cx8; clear cx8; have HC30 := a_ H; clear H; have m3_2 := t_; rotate_left
           ·rw [if_neg cx8] at H; exact absurd H y57_
           ·rw [if_neg cx7] at H; exact absurd H y57_
           all_goals (
            first
            | fail_if_success clear m3_0
            |(clear m3_0; go_wp2
              go_ret
              exact ⟨y4_, y0_⟩)
            first
            | fail_if_success clear m3_1
            |(clear m3_1; go_wp2_with (first | ((with_reducible refine gate_callee (f := 39) rfl ?_); refine gc_ 39 54 Try.func39 #[.slice (some ad154) l0.length c0, .int .i64 a1] ?_; (with_reducible refine (spec_l4Deep.calls kj21 _ _ l0 a1 tx5 _ ?side1 ?side2 Ax5.out).mono ?_); (case side1 => repeat (first | exact (Kd.C_below HR0.out HB.out) | (with_reducible refine Kd.C_alloc ?_ _) | (with_reducible refine Kd.C_drewN ?_ _) | (with_reducible refine Kd.C_drew ?_))); (case side2 => exact HC0.out); rintro e w' ⟨rfl, ⟨nd, rfl⟩⟩; refine ⟨_, rfl, ?_⟩))
              go_ret
              exact ⟨y4_, y0_⟩)
            first
            | fail_if_success clear m3_2
            |(clear m3_2; go_upto_if 60 with (first | ((with_reducible refine gate_callee (f := 39) rfl ?_); refine gc_ 39 54 Try.func39 #[.slice (some ad154) l0.length c0, .int .i64 a1] ?_; (with_reducible refine (spec_l4Deep.calls kj21 _ _ l0 a1 tx5 _ ?side1 ?side2 Ax5.out).mono ?_); (case side1 => repeat (first | exact (Kd.C_below HR0.out HB.out) | (with_reducible refine Kd.C_alloc ?_ _) | (with_reducible refine Kd.C_drewN ?_ _) | (with_reducible refine Kd.C_drew ?_))); (case side2 => exact HC0.out); rintro e w' ⟨rfl, ⟨nd, rfl⟩⟩; refine ⟨_, rfl, ?_⟩; have p9133985 : 0 ≤ (a1 : Int) := of_decide_eq_true y2_; have q9133985 : a1 < (l0.length : Int) := of_decide_eq_true y2_; obtain ⟨ad9133985, A164_4, c164_4, A164_5, c164_5, e9133985, hx9133985_0, hx9133985_1, hx9133985_2, hx9133985_3, hx9133985_4, hx9133985_5, hl9133985_4, hi164_4, hl9133985_5, hi164_5⟩ := at_T37 HR0.out a1 p9133985 q9133985; obtain rfl : ad154 = ad9133985 := (by injection e9133985); replace hx9133985_0 := cT_ HB.out hx9133985_0; replace hx9133985_1 := cT_ HB.out hx9133985_1; replace hx9133985_2 := cT_ HB.out hx9133985_2; replace hx9133985_3 := cT_ HB.out hx9133985_3; replace hx9133985_4 := cT_ HB.out hx9133985_4; replace hx9133985_5 := cT_ HB.out hx9133985_5; have HR164_4 := a_ hi164_4; have HC164_4 := a_ hl9133985_4; clear hi164_4 hl9133985_4; have HR164_5 := a_ hi164_5; have HC164_5 := a_ hl9133985_5; clear hi164_5 hl9133985_5; replace p9133985 := eq_true p9133985; replace q9133985 := eq_true q9133985))
              (try simp only [Act.put, List.setIfInBounds_toArray, List.set_cons_zero, List.set_cons_succ]); go_cut [] (fun wc => ∃ (kq : Nat), Aside0 (spec_l4One.j3 kq l0 a1 = some r) ∧ Aside0 (kq ≤ kj21) ∧ Aside0 (Below w.heap.size w wc))
              case first =>
               have H := HC30.out; clear HC30; by_cases cx9 : ((rd_T37 l0 a1).f0) = 2; rw [if_pos cx9] at H; have cx9b0 : (((rd_T37 l0 a1).f0) == 2) = true := beq_iff_eq.mpr cx9; have cx9b1 : (((rd_T37 l0 a1).f0) != 2) = false := bne_eq_false_iff_eq.mpr cx9; clear cx9; (first | rw [cx9b0] | (simp only [i64_w, i32_w]; rw [cx9b0]) | skip); replace H := Option.bind_eq_some_iff.mp H; obtain ⟨tx10, Ay10, H⟩ := H; have Ax10 := a_ Ay10; clear Ay10; by_cases cx11 : tx10 = 0; rw [if_pos cx11] at H; have cx11b0 : (tx10 == 0) = true := beq_iff_eq.mpr cx11; have cx11b1 : (tx10 != 0) = false := bne_eq_false_iff_eq.mpr cx11; clear cx11; have H' := a_ H; clear H; have m4_0 := t_; have m4_2 := t_; rotate_left; rw [if_neg cx11] at H; have cx11b0 : (tx10 == 0) = false := beq_eq_false_iff_ne.mpr cx11; have cx11b1 : (tx10 != 0) = true := bne_iff_ne.mpr cx11; obtain rfl := Option.some.inj H; have m4_0 := t_; have m4_3 := t_; rotate_left; rw [if_neg cx9] at H; have cx9b0 : (((rd_T37 l0 a1).f0) == 2) = false := beq_eq_false_iff_ne.mpr cx9; have cx9b1 : (((rd_T37 l0 a1).f0) != 2) = true := bne_iff_ne.mpr cx9; (first | rw [cx9b0] | (simp only [i64_w, i32_w]; rw [cx9b0]) | skip); have H' := a_ H; clear H; have m4_1 := t_; have m4_2 := t_; rotate_left
               all_goals (
                first
                | fail_if_success clear m4_0
                |(clear m4_0; go_wp2_with (first | ((with_reducible refine gate_callee (f := 40) rfl ?_); refine gc_ 40 65 Try.func40 #[.string ((rd_T37 l0 a1).f2)] ?_; (with_reducible refine (spec_l1Name.calls kj21 ((rd_T37 l0 a1).f2) tx10 _ Ax10.out).mono ?_); rintro e w' ⟨rfl, ⟨nd, rfl⟩⟩; refine ⟨_, rfl, ?_⟩)))
                first
                | fail_if_success clear m4_1
                |(clear m4_1; go_wp2)
                first
                | fail_if_success clear m4_2
                |(clear m4_2; go_meet
                  case rel => exact ⟨_, H', ⟨by have := HJ4.out; have := HJ9.out; have := HJ21.out; first | omega | exact Nat.le_refl _⟩, ⟨y0_⟩⟩)
                first
                | fail_if_success clear m4_3
                |(clear m4_3; go_ret
                  exact ⟨y4_, y0_⟩))
              case rest =>
               clear HC30; (try clear cx0); (try clear cx0b0); (try clear cx1); (try clear cx1b0); (try clear cx2); (try clear cx3); (try clear cx4); (try clear cx6); (try clear cx6b0); (try clear cx7); (try clear cx7b0); (try clear cx8); (try clear cx8b0); (try clear hx154_0); (try clear hx154_1); (try clear hx154_2); (try clear hx154_3); (try clear hx154_4); (try clear hx154_5); (try clear hx9133985_0); (try clear hx9133985_1); (try clear hx9133985_2); (try clear hx9133985_3); (try clear hx9133985_4); (try clear hx9133985_5); (try clear p154); (try clear p9133985); (try clear q154); (try clear q9133985); obtain ⟨kq, HA, HJ29, HB⟩ := hcut; cases kq with
               | zero => exact absurd HA.out (by simp [spec_l4One.j3])
               | succ kj29 =>
                have H := HA.out; clear HA; simp only [spec_l4One.j3] at H; replace H := Option.bind_eq_some_iff.mp H; obtain ⟨tx9, Ay9, H⟩ := H; have Ax9 := a_ Ay9; clear Ay9; by_cases cx10 : tx9 = true; subst cx10; rw [if_pos rfl] at H; by_cases cx11 : 0 ≤ a1; rw [if_pos cx11] at H; have cx11b0 : decide (0 ≤ a1) = true := decide_eq_true cx11; clear cx11; by_cases cx12 : a1 < (l0.length : Int); rw [if_pos cx12] at H; have cx12b0 : decide (a1 < (l0.length : Int)) = true := decide_eq_true cx12; clear cx12; by_cases cx13 : ((rd_T37 l0 a1).f0) = 7; rw [if_pos cx13] at H; have cx13b0 : (((rd_T37 l0 a1).f0) == 7) = true := beq_iff_eq.mpr cx13; have cx13b1 : (((rd_T37 l0 a1).f0) != 7) = false := bne_eq_false_iff_eq.mpr cx13; clear cx13; replace H := Option.bind_eq_some_iff.mp H; obtain ⟨tx14, Ay14, H⟩ := H; have Ax14 := a_ Ay14; clear Ay14; obtain rfl := Option.some.inj H; have m4_0 := t_; rotate_left; rw [if_neg cx13] at H; have cx13b0 : (((rd_T37 l0 a1).f0) == 7) = false := beq_eq_false_iff_ne.mpr cx13; have cx13b1 : (((rd_T37 l0 a1).f0) != 7) = true := bne_iff_ne.mpr cx13; obtain rfl := Option.some.inj H; have m4_0 := t_; rotate_left
                ·rw [if_neg cx12] at H; exact absurd H y57_
                ·rw [if_neg cx11] at H; exact absurd H y57_
                replace cx10 := Bool.eq_false_iff.mpr cx10; subst cx10; rw [if_neg (show ¬ (false = true) by decide)] at H; obtain rfl := Option.some.inj H; have m4_1 := t_; rotate_left
                all_goals (
                 go_wp2_with (first | (have mkq_ := m4_0; clear mkq_; (with_reducible refine gate_callee (f := 41) rfl ?_); refine gc_ 41 70 Try.func41 #[.pointer (some (ad154.add ((a1).toNat * 6)))] ?_; (with_reducible refine (spec_l4Arg.calls kj29 _ (rd_T37 l0 a1) _ _ ?side1 Ax9.out).mono ?_); (case side1 => refine C_one y91_ a1 (by first | exact BD154.out.1 | omega | exact of_decide_eq_true y2_) (by first | exact BD154.out.2 | exact of_decide_eq_true y2_ | omega) _ rfl); rintro e w' ⟨rfl, ⟨nd, rfl⟩⟩; refine ⟨_, rfl, ?_⟩; have p9868701 : 0 ≤ (a1 : Int) := of_decide_eq_true y2_; have q9868701 : a1 < (l0.length : Int) := of_decide_eq_true y2_; obtain ⟨ad9868701, A167_4, c167_4, A167_5, c167_5, e9868701, hx9868701_0, hx9868701_1, hx9868701_2, hx9868701_3, hx9868701_4, hx9868701_5, hl9868701_4, hi167_4, hl9868701_5, hi167_5⟩ := at_T37 HR0.out a1 p9868701 q9868701; obtain rfl : ad154 = ad9868701 := (by injection e9868701); replace hx9868701_0 := cT_ HB.out hx9868701_0; replace hx9868701_1 := cT_ HB.out hx9868701_1; replace hx9868701_2 := cT_ HB.out hx9868701_2; replace hx9868701_3 := cT_ HB.out hx9868701_3; replace hx9868701_4 := cT_ HB.out hx9868701_4; replace hx9868701_5 := cT_ HB.out hx9868701_5; have HR167_4 := a_ hi167_4; have HC167_4 := a_ hl9868701_4; clear hi167_4 hl9868701_4; have HR167_5 := a_ hi167_5; have HC167_5 := a_ hl9868701_5; clear hi167_5 hl9868701_5; replace p9868701 := eq_true p9868701; replace q9868701 := eq_true q9868701) | ((with_reducible refine gate_callee (f := 42) rfl ?_); refine gc_ 42 81 Try.func42 #[.slice A167_5 ((rd_T37 l0 a1).f5).length c167_5] ?_; (with_reducible refine (spec_l3Fault.calls kj29 _ _ ((rd_T37 l0 a1).f5) tx14 _ ?side1 ?side2 Ax14.out).mono ?_); (case side1 => repeat (first | exact (Kd.C_below HR167_5.out y0_) | (with_reducible refine Kd.C_alloc ?_ _) | (with_reducible refine Kd.C_drewN ?_ _) | (with_reducible refine Kd.C_drew ?_))); (case side2 => exact HC167_5.out); rintro e w9830928 ⟨rfl, hb⟩; refine ⟨_, rfl, ?_⟩; have n0_ := a_ (below_step y0_ hb); clear HB; have HB := n0_; clear n0_; (try clear hb); (try clear hb9802126); (try clear hk); (try clear hi)) | (have mkq_ := m4_1; clear mkq_; (with_reducible refine gate_callee (f := 41) rfl ?_); refine gc_ 41 70 Try.func41 #[.pointer (some (ad154.add ((a1).toNat * 6)))] ?_; (with_reducible refine (spec_l4Arg.calls kj29 _ (rd_T37 l0 a1) _ _ ?side1 Ax9.out).mono ?_); (case side1 => refine C_one y91_ a1 (by first | exact BD154.out.1 | omega | exact of_decide_eq_true y2_) (by first | exact BD154.out.2 | exact of_decide_eq_true y2_ | omega) _ rfl); rintro e w' ⟨rfl, ⟨nd, rfl⟩⟩; refine ⟨_, rfl, ?_⟩))
                 go_ret
                 exact ⟨y4_, y0_⟩)))
  ·rw [if_neg cx1] at H; exact absurd H y57_
 ·rw [if_neg cx0] at H; exact absurd H y57_

/-! ### spec_l4Many: function 43 -/
def spec_l4Many.j0 : Nat → Int → Int → Bool → Bool → Option (Bool)
  | 0, _, _, _, _ => none
  | k + 1, x1, x5, x6, x10 => if x10 = true then (some (decide (x1 ≥ 2))) else (if x5 = 8 then (some (x1 == 2)) else (some (x1 == 0)))
def spec_l4Many.f (k : Nat) (a0 : Int) (a1 : Int) : Option (Bool) := if a0 = 1 then (some (decide (a1 ≥ 1))) else (if a0 = 3 then (spec_l4Many.j0 k a1 a0 (a0 == 1) (a0 == 3)) else (spec_l4Many.j0 k a1 a0 (a0 == 1) (a0 == 4)))
theorem spec_l4Many.mono_l : ∀ k, (∀ y0 y1 y2 y3, LeO (spec_l4Many.j0 k y0 y1 y2 y3) (spec_l4Many.j0 (k + 1) y0 y1 y2 y3))
  | 0 => fun _ _ _ _ r h => by simp [spec_l4Many.j0] at h
  | k + 1 => by
    have ih0 := spec_l4Many.mono_l k
    · intro y0 y1 y2 y3
      unfold spec_l4Many.j0
      repeat' (with_reducible first | exact ih0 _ _ _ _ | exact LeO.refl _ | exact LeO.none _ | refine LeO.ite ?_ ?_ | refine LeO.bind ?_ (fun _ => ?_))
theorem spec_l4Many.mono : ∀ a0 a1 k, LeO (spec_l4Many.f k a0 a1) (spec_l4Many.f (k + 1) a0 a1) := by
  intro a0 a1 k
  have ih0 := spec_l4Many.mono_l k
  unfold spec_l4Many.f
  repeat' (with_reducible first | exact ih0 _ _ _ _ | exact LeO.refl _ | exact LeO.none _ | refine LeO.ite ?_ ?_ | refine LeO.bind ?_ (fun _ => ?_))
set_option maxHeartbeats 8000000 in
set_option maxRecDepth 100000 in
theorem spec_l4Many.calls (k : Nat) (a0 : Int) (a1 : Int) (r : Bool) (w : World) (h : spec_l4Many.f k a0 a1 = some r) :
    Calls Try.prog 43 #[.int .i64 a0, .int .i64 a1] w fun e w' => e = .returned (.bool r) ∧ Drawn0 w w' := by
 have H : (if a0 = 1 then (some (decide (a1 ≥ 1))) else (if a0 = 3 then (spec_l4Many.j0 k a1 a0 (a0 == 1) (a0 == 3)) else (spec_l4Many.j0 k a1 a0 (a0 == 1) (a0 == 4)))) = some r := h; clear h; by_cases cx0 : a0 = 1
 ·rw [if_pos cx0] at H; have cx0b0 : (a0 == 1) = true := beq_iff_eq.mpr cx0; have cx0b1 : (a0 != 1) = false := bne_eq_false_iff_eq.mpr cx0; clear cx0; obtain rfl := Option.some.inj H; go_enter Try.func43, Try.ntmps43
  go_wp2
  go_ret
  exact ⟨y1_, y9_⟩
 ·rw [if_neg cx0] at H; have cx0b0 : (a0 == 1) = false := beq_eq_false_iff_ne.mpr cx0; have cx0b1 : (a0 != 1) = true := bne_iff_ne.mpr cx0; have HC4 := a_ H; clear H; go_enter Try.func43, Try.ntmps43
  go_upto_if 10 with (fail)
  go_cut [6, 10] (fun v6 v10 wc => ∃ (kq : Nat) (x6_3 : Bool) (x10_3 : Bool), v6 = .bool x6_3 ∧ v10 = .bool x10_3 ∧ Aside0 (spec_l4Many.j0 kq a1 a0 x6_3 x10_3 = some r) ∧ Aside0 (kq ≤ k) ∧ Drawn0 w wc)
  case first =>
   have H := HC4.out; clear HC4; by_cases cx1 : a0 = 3
   ·rw [if_pos cx1] at H; have cx1b0 : (a0 == 3) = true := beq_iff_eq.mpr cx1; have cx1b1 : (a0 != 3) = false := bne_eq_false_iff_eq.mpr cx1; clear cx1; (first | rw [cx1b0] | (simp only [i64_w, i32_w]; rw [cx1b0]) | skip); have H' := a_ H; clear H; go_wp2
    go_meet
    case rel => exact ⟨_, ((a0 == 1)), ((a0 == 3)), y1_, y1_, H', ⟨y45_⟩, y9_⟩
   ·rw [if_neg cx1] at H; have cx1b0 : (a0 == 3) = false := beq_eq_false_iff_ne.mpr cx1; have cx1b1 : (a0 != 3) = true := bne_iff_ne.mpr cx1; (first | rw [cx1b0] | (simp only [i64_w, i32_w]; rw [cx1b0]) | skip); have H' := a_ H; clear H; go_wp2
    go_meet
    case rel => exact ⟨_, ((a0 == 1)), ((a0 == 4)), y1_, y1_, H', ⟨y45_⟩, y9_⟩
  case rest =>
   clear HC4; (try clear cx0); (try clear cx0b0); (try clear cx0b1); obtain ⟨kq, x6_3, x10_3, rfl, rfl, HA, HJ3, ⟨mc3, rfl⟩⟩ := hcut; cases kq with
   | zero => exact absurd HA.out (by simp [spec_l4Many.j0])
   | succ kj3 =>
    have H := HA.out; clear HA; simp only [spec_l4Many.j0] at H; by_cases cx1 : x10_3 = true; subst cx1; rw [if_pos rfl] at H; obtain rfl := Option.some.inj H; rotate_left; replace cx1 := Bool.eq_false_iff.mpr cx1; subst cx1; rw [if_neg (show ¬ (false = true) by decide)] at H; by_cases cx2 : a0 = 8; rw [if_pos cx2] at H; have cx2b0 : (a0 == 8) = true := beq_iff_eq.mpr cx2; have cx2b1 : (a0 != 8) = false := bne_eq_false_iff_eq.mpr cx2; clear cx2; obtain rfl := Option.some.inj H; rotate_left; rw [if_neg cx2] at H; have cx2b0 : (a0 == 8) = false := beq_eq_false_iff_ne.mpr cx2; have cx2b1 : (a0 != 8) = true := bne_iff_ne.mpr cx2; obtain rfl := Option.some.inj H; rotate_left
    all_goals (
     go_wp2
     go_ret
     exact ⟨y1_, y9_⟩)

/-! ### spec_l4Kids: function 44 -/
def spec_l4Kids.l0 : Nat → List (S37) → Int → List Int → Int → Option (List Int)
  | 0, _, _, _, _ => none
  | k + 1, x0, x1, x5, x6 => if x6 < (x0.length : Int) then (if 0 ≤ x6 then (if ((rd_T37 x0 x6).f1) = x1 then (if x5.length < 17592186044416 then (spec_l4Kids.l0 k x0 x1 (x5 ++ [x6]) (wrap64 (x6 + 1))) else (none)) else (spec_l4Kids.l0 k x0 x1 x5 (wrap64 (x6 + 1)))) else (none)) else (some x5)
def spec_l4Kids.f (k : Nat) (l0 : List (S37)) (a1 : Int) : Option (List Int) := spec_l4Kids.l0 k l0 a1 (([] : List Int)) 0
theorem spec_l4Kids.mono_l : ∀ k, (∀ y0 y1 y2 y3, LeO (spec_l4Kids.l0 k y0 y1 y2 y3) (spec_l4Kids.l0 (k + 1) y0 y1 y2 y3))
  | 0 => fun _ _ _ _ r h => by simp [spec_l4Kids.l0] at h
  | k + 1 => by
    have ih0 := spec_l4Kids.mono_l k
    · intro y0 y1 y2 y3
      unfold spec_l4Kids.l0
      repeat' (with_reducible first | exact ih0 _ _ _ _ | exact LeO.refl _ | exact LeO.none _ | refine LeO.ite ?_ ?_ | refine LeO.bind ?_ (fun _ => ?_))
theorem spec_l4Kids.mono : ∀ a0 a1 k, LeO (spec_l4Kids.f k a0 a1) (spec_l4Kids.f (k + 1) a0 a1) := by
  intro a0 a1 k
  have ih0 := spec_l4Kids.mono_l k
  unfold spec_l4Kids.f
  repeat' (with_reducible first | exact ih0 _ _ _ _ | exact LeO.refl _ | exact LeO.none _ | refine LeO.ite ?_ ?_ | refine LeO.bind ?_ (fun _ => ?_))
set_option maxHeartbeats 8000000 in
set_option maxRecDepth 100000 in
theorem spec_l4Kids.calls (k : Nat) (A0 : Option Addr) (c0 : Nat) (l0 : List (S37)) (a1 : Int) (r : List Int) (w : World) (hr0 : Kd.C k37 w A0 l0.length l0) (hc0 : l0.length ≤ c0) (h : spec_l4Kids.f k l0 a1 = some r) :
    Calls Try.prog 44 #[.slice A0 l0.length c0, .int .i64 a1] w fun e w' => ∃ v0_ : Value, e = .returned (v0_) ∧ Kd.R (Kd.int .i64) 2 w' w.heap.size (fun _ => True) v0_ r ∧ Below w.heap.size w w' := by
 have HR0 := a_ hr0; have HC0 := a_ hc0; clear hr0 hc0; have HB := a_ (Below.refl w.heap.size w); have H : (spec_l4Kids.l0 k l0 a1 (([] : List Int)) 0) = some r := h; clear h; obtain ⟨y169, hy_⟩ : ∃ y_ : List Int, y_ = (([] : List Int)) := ⟨_, rfl⟩; replace H : (spec_l4Kids.l0 k l0 a1 y169 0) = some r := z0_; have Ny169 := a_ hy_; clear hy_; have H' := a_ H; clear H; go_enter Try.func44, Try.ntmps44
 go_wp2_with (first | ((with_reducible refine gate_dst (N := 7) rfl ?_); refine Kd.R_lit (Kd.int .i64) _ 2 ?hg (N := 7) ?hd (xs := ([] : List Int)) (inner := []) (ok := fun _ => True) (okp := fun _ => True) ?hr ?hp (fun _ hk => hk) trivial (Below.refl _ _) (Nat.le_refl _) y57_ ?_; (case hd => rfl); (case hg => rfl); (case hr => first | (go_simp; done) | (go_simp; rfl)); (case hp => exact (Reps.none _ _)); intro v170 w3 ho4 hb hg_ hnew_; clear hg_ hnew_; (first | rw [← Ny169.out] at ho4 | (simp only [Int.reduceToNat] at ho4; rw [← Ny169.out] at ho4)); have n0_ := a_ (Kd.R_lower ho4 (below_size y0_)); have n1_ := a_ (below_step y0_ hb); clear HB; have HO171 := n0_; have HB := n1_; clear n0_ n1_; clear hb ho4))
 go_loopg [5, 6] k (fun kq v5 v6 w' => ∃ (x5_1 : List Int) (x6_1 : Int), v6 = .int .i64 x6_1 ∧ Aside0 (spec_l4Kids.l0 kq l0 a1 x5_1 x6_1 = some r) ∧ Aside0 (kq ≤ k) ∧ Aside0 (Kd.R (Kd.int .i64) 2 w' w.heap.size (fun _ => True) v5 x5_1) ∧ Aside0 (Below w.heap.size w w'))
 case atStart => exact ⟨(y169), (0), y1_, H', ⟨Nat.le_refl _⟩, ⟨by (with_reducible repeat (first | apply Kd.R_alloc | apply Kd.R_drewN | apply Kd.R_drew)); exact HO171.out⟩, ⟨y0_⟩⟩
 case round =>
  clear H'; obtain ⟨x5_1, x6_1, rfl, HA, HK1, HO_5, HB⟩ := hrel; cases gk with
  | zero => exact absurd HA.out (by simp [spec_l4Kids.l0])
  | succ k1 =>
   have H := HA.out; clear HA; simp only [spec_l4Kids.l0] at H; by_cases cx0 : x6_1 < (l0.length : Int); rw [if_pos cx0] at H; have cx0b0 : decide (x6_1 < (l0.length : Int)) = true := decide_eq_true cx0; clear cx0; by_cases cx1 : 0 ≤ x6_1; rw [if_pos cx1] at H; have cx1b0 : decide (0 ≤ x6_1) = true := decide_eq_true cx1; clear cx1; by_cases cx2 : ((rd_T37 l0 x6_1).f1) = a1; rw [if_pos cx2] at H; have cx2b0 : (((rd_T37 l0 x6_1).f1) == a1) = true := beq_iff_eq.mpr cx2; have cx2b1 : (((rd_T37 l0 x6_1).f1) != a1) = false := bne_eq_false_iff_eq.mpr cx2; clear cx2; by_cases cx3 : x5_1.length < 17592186044416; rw [if_pos cx3] at H; have LMcx3 := a_ cx3; clear cx3; obtain ⟨y173, hy_⟩ : ∃ y_ : List Int, y_ = (x5_1 ++ [x6_1]) := ⟨_, rfl⟩; replace H : (spec_l4Kids.l0 k1 l0 a1 y173 (wrap64 (x6_1 + 1))) = some r := z0_; have Ny173 := a_ hy_; clear hy_; have H' := a_ H; clear H; have m0_0 := t_; have m0_1 := t_; rotate_left
   ·rw [if_neg cx3] at H; exact absurd H y57_
   rw [if_neg cx2] at H; have cx2b0 : (((rd_T37 l0 x6_1).f1) == a1) = false := beq_eq_false_iff_ne.mpr cx2; have cx2b1 : (((rd_T37 l0 x6_1).f1) != a1) = true := bne_iff_ne.mpr cx2; have H' := a_ H; clear H; have m0_0 := t_; have m0_2 := t_; rotate_left
   ·rw [if_neg cx1] at H; exact absurd H y57_
   rw [if_neg cx0] at H; have cx0b0 : decide (x6_1 < (l0.length : Int)) = false := decide_eq_false cx0; clear cx0; obtain rfl := Option.some.inj H; have m0_3 := t_; rotate_left
   all_goals (
    first
    | fail_if_success clear m0_0
    |(clear m0_0; have p9922068 : 0 ≤ (x6_1 : Int) := of_decide_eq_true y2_; have q9922068 : x6_1 < (l0.length : Int) := of_decide_eq_true y2_; obtain ⟨ad9922068, A172_4, c172_4, A172_5, c172_5, e9922068, hx9922068_0, hx9922068_1, hx9922068_2, hx9922068_3, hx9922068_4, hx9922068_5, hl9922068_4, hi172_4, hl9922068_5, hi172_5⟩ := at_T37 HR0.out x6_1 p9922068 q9922068; cases e9922068; replace hx9922068_0 := cT_ HB.out hx9922068_0; replace hx9922068_1 := cT_ HB.out hx9922068_1; replace hx9922068_2 := cT_ HB.out hx9922068_2; replace hx9922068_3 := cT_ HB.out hx9922068_3; replace hx9922068_4 := cT_ HB.out hx9922068_4; replace hx9922068_5 := cT_ HB.out hx9922068_5; have HR172_4 := a_ hi172_4; have HC172_4 := a_ hl9922068_4; clear hi172_4 hl9922068_4; have HR172_5 := a_ hi172_5; have HC172_5 := a_ hl9922068_5; clear hi172_5 hl9922068_5; replace p9922068 := eq_true p9922068; replace q9922068 := eq_true q9922068)
    first
    | fail_if_success clear m0_1
    |(clear m0_1; go_wp2_with (first | ((with_reducible refine gate_builtin (b := .append) (xs := #[.tmp 21, .tmp 23]) rfl ?_); at_builtin; refine Kd.R_append (Kd.int .i64) (w0 := w) w.heap.size rfl (.tmp 21) (.tmp 23) 39 2 (.int .i64 0) 8 rfl Try.underlying39 info2 rfl y36_ y88_ u5 x5_1 x6_1 [.int .i64 x6_1] (fun _ => True) (fun _ => False) rfl rfl ?aP (fun _ hk => hk.elim) ?aF ?aO ?aB ?aS ?aL ?_; (case aP => exact rfl); (case aB => exact y0_); (case aF => exact (fun _ _ => trivial)); (case aO => exact y68_); (case aS => exact (below_size y0_)); (case aL => have := LMcx3.out; omega); intro v9997075 w9091474 ho hb hg hat; rw [← Ny173.out] at ho; have n0_ := a_ (hb); have n1_ := a_ (ho); clear HB; clear HO_5; have HB := n0_; have HO9559088 := n1_; clear n0_ n1_; clear ho hb hg hat))
      go_roundg k1
      case measure => have := HK1.out; omega
      case rel => exact ⟨(y173), (wrap64 (x6_1 + 1)), y1_, H', ⟨y72_⟩, ⟨by (with_reducible repeat (first | apply Kd.R_alloc | apply Kd.R_drewN | apply Kd.R_drew)); exact HO9559088.out⟩, ⟨y0_⟩⟩)
    first
    | fail_if_success clear m0_2
    |(clear m0_2; go_wp2
      go_roundg k1
      case measure => have := HK1.out; omega
      case rel => exact ⟨(x5_1), (wrap64 (x6_1 + 1)), y1_, H', ⟨y72_⟩, ⟨y68_⟩, ⟨y0_⟩⟩)
    first
    | fail_if_success clear m0_3
    |(clear m0_3; go_wp2
      go_ret
      exact ⟨_, y4_, y68_, y0_⟩))

/-! ### spec_l4Needs: function 45 -/
def spec_l4Needs.f (k : Nat) (l0 : List (S37)) (a1 : Int) : Option (Bool) := if 0 ≤ a1 then (if a1 < (l0.length : Int) then (if ((rd_T37 l0 a1).f1) < 0 then (some false) else (if 0 ≤ ((rd_T37 l0 a1).f1) then (if ((rd_T37 l0 a1).f1) < (l0.length : Int) then (if ((rd_T37 l0 ((rd_T37 l0 a1).f1)).f0) = 3 then ((spec_l4Kids.f k l0 ((rd_T37 l0 a1).f1)).bind fun t178 => (if 0 ≤ (wrap64 ((t178.length : Int) - 1)) then (if (wrap64 ((t178.length : Int) - 1)) < (t178.length : Int) then (some ((rd t178 (wrap64 ((t178.length : Int) - 1))) != a1)) else (none)) else (none))) else (some false)) else (none)) else (none))) else (none)) else (none)
theorem spec_l4Needs.mono : ∀ a0 a1 k, LeO (spec_l4Needs.f k a0 a1) (spec_l4Needs.f (k + 1) a0 a1) := by
  intro a0 a1 k
  unfold spec_l4Needs.f
  repeat' (with_reducible first | exact spec_l4Kids.mono _ _ _ | exact LeO.refl _ | exact LeO.none _ | refine LeO.ite ?_ ?_ | refine LeO.bind ?_ (fun _ => ?_))
set_option maxHeartbeats 8000000 in
set_option maxRecDepth 100000 in
theorem spec_l4Needs.calls (k : Nat) (A0 : Option Addr) (c0 : Nat) (l0 : List (S37)) (a1 : Int) (r : Bool) (w : World) (hr0 : Kd.C k37 w A0 l0.length l0) (hc0 : l0.length ≤ c0) (h : spec_l4Needs.f k l0 a1 = some r) :
    Calls Try.prog 45 #[.slice A0 l0.length c0, .int .i64 a1] w fun e w' => e = .returned (.bool r) ∧ Below w.heap.size w w' := by
 have HR0 := a_ hr0; have HC0 := a_ hc0; clear hr0 hc0; have HB := a_ (Below.refl w.heap.size w); have H : (if 0 ≤ a1 then (if a1 < (l0.length : Int) then (if ((rd_T37 l0 a1).f1) < 0 then (some false) else (if 0 ≤ ((rd_T37 l0 a1).f1) then (if ((rd_T37 l0 a1).f1) < (l0.length : Int) then (if ((rd_T37 l0 ((rd_T37 l0 a1).f1)).f0) = 3 then ((spec_l4Kids.f k l0 ((rd_T37 l0 a1).f1)).bind fun t178 => (if 0 ≤ (wrap64 ((t178.length : Int) - 1)) then (if (wrap64 ((t178.length : Int) - 1)) < (t178.length : Int) then (some ((rd t178 (wrap64 ((t178.length : Int) - 1))) != a1)) else (none)) else (none))) else (some false)) else (none)) else (none))) else (none)) else (none)) = some r := h; clear h; by_cases cx0 : 0 ≤ a1; rw [if_pos cx0] at H; have cx0b0 : decide (0 ≤ a1) = true := decide_eq_true cx0; clear cx0; by_cases cx1 : a1 < (l0.length : Int); rw [if_pos cx1] at H; have cx1b0 : decide (a1 < (l0.length : Int)) = true := decide_eq_true cx1; clear cx1; by_cases cx2 : ((rd_T37 l0 a1).f1) < 0; rw [if_pos cx2] at H; have cx2b0 : decide (((rd_T37 l0 a1).f1) < 0) = true := decide_eq_true cx2; clear cx2; obtain rfl := Option.some.inj H; have m0_0 := t_; rotate_left; rw [if_neg cx2] at H; have cx2b0 : decide (((rd_T37 l0 a1).f1) < 0) = false := decide_eq_false cx2; clear cx2; by_cases cx3 : 0 ≤ ((rd_T37 l0 a1).f1); rw [if_pos cx3] at H; have cx3b0 : decide (0 ≤ ((rd_T37 l0 a1).f1)) = true := decide_eq_true cx3; clear cx3; by_cases cx4 : ((rd_T37 l0 a1).f1) < (l0.length : Int); rw [if_pos cx4] at H; have cx4b0 : decide (((rd_T37 l0 a1).f1) < (l0.length : Int)) = true := decide_eq_true cx4; clear cx4; by_cases cx5 : ((rd_T37 l0 ((rd_T37 l0 a1).f1)).f0) = 3; rw [if_pos cx5] at H; have cx5b0 : (((rd_T37 l0 ((rd_T37 l0 a1).f1)).f0) == 3) = true := beq_iff_eq.mpr cx5; have cx5b1 : (((rd_T37 l0 ((rd_T37 l0 a1).f1)).f0) != 3) = false := bne_eq_false_iff_eq.mpr cx5; clear cx5; replace H := Option.bind_eq_some_iff.mp H; obtain ⟨tx6, Ay6, H⟩ := H; have Ax6 := a_ Ay6; clear Ay6; obtain ⟨ji10, hji10⟩ : ∃ j_ : Int, (wrap64 ((tx6.length : Int) - 1)) = j_ := ⟨_, rfl⟩; replace H : (if 0 ≤ (ji10) then (if (ji10) < (tx6.length : Int) then (some ((rd tx6 (ji10)) != a1)) else (none)) else (none)) = some r := by first | (rw [hji10] at H; exact H) | (simp only [hji10] at H ⊢; exact H)
 (try rw [hji10] at Ax6); have hji10w : (IntKind.i64.wrap ((tx6.length : Int) - 1)) = ji10 := (i64_w _).trans hji10; by_cases cx7 : 0 ≤ (ji10); rw [if_pos cx7] at H; have cx7b0 : decide (0 ≤ (ji10)) = true := decide_eq_true cx7; clear cx7; by_cases cx8 : (ji10) < (tx6.length : Int); rw [if_pos cx8] at H; have cx8b0 : decide ((ji10) < (tx6.length : Int)) = true := decide_eq_true cx8; clear cx8; obtain rfl := Option.some.inj H; have m0_1 := t_; have m0_2 := t_; rotate_left
 ·rw [if_neg cx8] at H; exact absurd H y57_
 ·rw [if_neg cx7] at H; exact absurd H y57_
 rw [if_neg cx5] at H; have cx5b0 : (((rd_T37 l0 ((rd_T37 l0 a1).f1)).f0) == 3) = false := beq_eq_false_iff_ne.mpr cx5; have cx5b1 : (((rd_T37 l0 ((rd_T37 l0 a1).f1)).f0) != 3) = true := bne_iff_ne.mpr cx5; obtain rfl := Option.some.inj H; have m0_1 := t_; have m0_3 := t_; rotate_left
 ·rw [if_neg cx4] at H; exact absurd H y57_
 ·rw [if_neg cx3] at H; exact absurd H y57_
 ·rw [if_neg cx1] at H; exact absurd H y57_
 ·rw [if_neg cx0] at H; exact absurd H y57_
 all_goals (
  have p9922068 : 0 ≤ (a1 : Int) := of_decide_eq_true y2_; have q9922068 : a1 < (l0.length : Int) := of_decide_eq_true y2_; obtain ⟨ad9922068, A176_4, c176_4, A176_5, c176_5, e9922068, hx9922068_0, hx9922068_1, hx9922068_2, hx9922068_3, hx9922068_4, hx9922068_5, hl9922068_4, hi176_4, hl9922068_5, hi176_5⟩ := at_T37 HR0.out a1 p9922068 q9922068; cases e9922068; have HR176_4 := a_ hi176_4; have HC176_4 := a_ hl9922068_4; clear hi176_4 hl9922068_4; have HR176_5 := a_ hi176_5; have HC176_5 := a_ hl9922068_5; clear hi176_5 hl9922068_5; replace p9922068 := eq_true p9922068; replace q9922068 := eq_true q9922068
  first
  | fail_if_success clear m0_0
  |(clear m0_0; go_enter Try.func45, Try.ntmps45
    go_wp2
    go_ret
    exact ⟨y4_, y0_⟩)
  first
  | fail_if_success clear m0_1
  |(clear m0_1; have p9548309 : 0 ≤ (((rd_T37 l0 a1).f1) : Int) := of_decide_eq_true y2_; have q9548309 : ((rd_T37 l0 a1).f1) < (l0.length : Int) := of_decide_eq_true y2_; obtain ⟨ad9548309, A177_4, c177_4, A177_5, c177_5, e9548309, hx9548309_0, hx9548309_1, hx9548309_2, hx9548309_3, hx9548309_4, hx9548309_5, hl9548309_4, hi177_4, hl9548309_5, hi177_5⟩ := at_T37 HR0.out ((rd_T37 l0 a1).f1) p9548309 q9548309; obtain rfl : ad9922068 = ad9548309 := (by injection e9548309); have HR177_4 := a_ hi177_4; have HC177_4 := a_ hl9548309_4; clear hi177_4 hl9548309_4; have HR177_5 := a_ hi177_5; have HC177_5 := a_ hl9548309_5; clear hi177_5 hl9548309_5; replace p9548309 := eq_true p9548309; replace q9548309 := eq_true q9548309; go_enter Try.func45, Try.ntmps45)
  first
  | fail_if_success clear m0_2
  |(clear m0_2; go_wp2_with (first | ((with_reducible refine gate_callee (f := 44) rfl ?_); refine gc_ 44 24 Try.func44 #[.slice (some ad9922068) l0.length c0, .int .i64 ((rd_T37 l0 a1).f1)] ?_; (with_reducible refine (spec_l4Kids.calls k _ _ l0 ((rd_T37 l0 a1).f1) tx6 _ ?side1 ?side2 Ax6.out).mono ?_); (case side1 => repeat (first | exact HR0.out | (with_reducible refine Kd.C_alloc ?_ _) | (with_reducible refine Kd.C_drewN ?_ _) | (with_reducible refine Kd.C_drew ?_))); (case side2 => exact HC0.out); rintro e w9648734 ⟨v9959996, rfl, ho0, hb⟩; refine ⟨_, rfl, ?_⟩; have n0_ := a_ (Kd.R_lower ho0 (below_size y0_)); have n1_ := a_ (below_step y0_ hb); clear HB; have HO9903375 := n0_; have HB := n1_; clear n0_ n1_; (try clear hb); (try clear hb9885178); (try clear hk); (try clear hi); (try clear ho0); obtain ⟨Ao9528402, co9528402, eo9528402⟩ := Kd.R_slice HO9903375.out; subst eo9528402; have p9293327 : 0 ≤ ((ji10) : Int) := of_decide_eq_true y2_; have q9293327 : (ji10) < (tx6.length : Int) := of_decide_eq_true y2_; obtain ⟨ad9293327, e9293327, hx9293327_0⟩ := Kd.at_int (Kd.R_reads' HO9903375.out).2.2 (ji10) p9293327 q9293327; cases e9293327; replace p9293327 := eq_true p9293327; replace q9293327 := eq_true q9293327))
    go_ret
    exact ⟨by first | rfl | (simp [errW_none, errW_some] <;> rfl) | (simp only [← hji10]; first | rfl | (simp [errW_none, errW_some] <;> rfl)) | (simp [*, errW_none, errW_some] <;> rfl), y0_⟩)
  first
  | fail_if_success clear m0_3
  |(clear m0_3; go_wp2
    go_ret
    exact ⟨y4_, y0_⟩))

end Go.Proofs.Ytjbcpghpafacaaa.I
