-- Written by a program of this session's own (xp.py) for this seat.
import Derived.Test.YtjbcpghpafacaaaIZ
import Derived.Test.YtjbcpghpafacaaaI0
import Derived.Test.YtjbcpghpafacaaaI1
import Derived.Test.YtjbcpghpafacaaaI7
import Derived.Test.YtjbcpghpafacaaaI8
import Derived.Test.YtjbcpghpafacaaaI9
namespace Go.Proofs.Ytjbcpghpafacaaa.I
open Go.RowKit Go.Proofs.YtjbcpghpafacaaaW.PrintWords Go.Proofs.YtjbcpghpafacaaaW.PrintLast Go.Proofs.YtjbcpghpafacaaaW.PrintMore
attribute [local go_sem] Instr.field asAgg
attribute [local go_sem] max2_int min2_int max_two min_two max_three min_three max_four min_four   -- for this text's walks alone
set_option linter.unusedVariables false
set_option linter.unusedSimpArgs false

attribute [local go_sem high] eqA74
/-! ### spec_l4Fault: function 10 -/
mutual
def spec_l4Fault.j0 : Nat → List (S37) → Bool → Option (Int)
  | 0, _, _ => none
  | k + 1, x0, x16 => if x16 = true then (some 2) else (spec_l4Fault.l0 k x0 0)
def spec_l4Fault.l0 : Nat → List (S37) → Int → Option (Int)
  | 0, _, _ => none
  | k + 1, x0, x3 => if x3 < (x0.length : Int) then ((spec_l4One.f k x0 x3).bind fun t239 => (if t239 = 0 then (spec_l4Fault.l0 k x0 (wrap64 (x3 + 1))) else (some t239))) else ((spec_l4Shape.f k x0).bind fun t240 => (if t240 = 0 then (spec_l4Fault.l1 k x0 0) else (some t240)))
def spec_l4Fault.l1 : Nat → List (S37) → Int → Option (Int)
  | 0, _, _ => none
  | k + 1, x0, x6 => if x6 < (x0.length : Int) then (if 0 ≤ x6 then ((spec_l4Typed.f k ((rd_T37 x0 x6).f4) 2).bind fun t242 => (if t242 = 0 then ((spec_l4Typed.f k ((rd_T37 x0 x6).f5) 1).bind fun t244 => (if t244 = 0 then (spec_l4Fault.l1 k x0 (wrap64 (x6 + 1))) else (some t244))) else (some t242))) else (none)) else (some 0)
end
def spec_l4Fault.f (k : Nat) (l0 : List (S37)) : Option (Int) := if (l0.length : Int) < 1 then (spec_l4Fault.j0 k l0 true) else (spec_l4Fault.j0 k l0 (decide ((l0.length : Int) > 24)))
theorem spec_l4Fault.mono_l : ∀ k, (∀ y0 y1, LeO (spec_l4Fault.j0 k y0 y1) (spec_l4Fault.j0 (k + 1) y0 y1)) ∧ (∀ y0 y1, LeO (spec_l4Fault.l0 k y0 y1) (spec_l4Fault.l0 (k + 1) y0 y1)) ∧ (∀ y0 y1, LeO (spec_l4Fault.l1 k y0 y1) (spec_l4Fault.l1 (k + 1) y0 y1))
  | 0 => ⟨fun _ _ r h => by simp [spec_l4Fault.j0] at h, fun _ _ r h => by simp [spec_l4Fault.l0] at h, fun _ _ r h => by simp [spec_l4Fault.l1] at h⟩
  | k + 1 => by
    obtain ⟨ih0, ih1, ih2⟩ := spec_l4Fault.mono_l k
    refine ⟨?_, ?_, ?_⟩
    · intro y0 y1
      unfold spec_l4Fault.j0
      repeat' (with_reducible first | exact ih0 _ _ | exact ih1 _ _ | exact ih2 _ _ | exact spec_l4One.mono _ _ _ | exact spec_l4Shape.mono _ _ | exact spec_l4Typed.mono _ _ _ | exact LeO.refl _ | exact LeO.none _ | refine LeO.ite ?_ ?_ | refine LeO.bind ?_ (fun _ => ?_))
    · intro y0 y1
      unfold spec_l4Fault.l0
      repeat' (with_reducible first | exact ih0 _ _ | exact ih1 _ _ | exact ih2 _ _ | exact spec_l4One.mono _ _ _ | exact spec_l4Shape.mono _ _ | exact spec_l4Typed.mono _ _ _ | exact LeO.refl _ | exact LeO.none _ | refine LeO.ite ?_ ?_ | refine LeO.bind ?_ (fun _ => ?_))
    · intro y0 y1
      unfold spec_l4Fault.l1
      repeat' (with_reducible first | exact ih0 _ _ | exact ih1 _ _ | exact ih2 _ _ | exact spec_l4One.mono _ _ _ | exact spec_l4Shape.mono _ _ | exact spec_l4Typed.mono _ _ _ | exact LeO.refl _ | exact LeO.none _ | refine LeO.ite ?_ ?_ | refine LeO.bind ?_ (fun _ => ?_))
theorem spec_l4Fault.mono : ∀ a0 k, LeO (spec_l4Fault.f k a0) (spec_l4Fault.f (k + 1) a0) := by
  intro a0 k
  obtain ⟨ih0, ih1, ih2⟩ := spec_l4Fault.mono_l k
  unfold spec_l4Fault.f
  repeat' (with_reducible first | exact ih0 _ _ | exact ih1 _ _ | exact ih2 _ _ | exact spec_l4One.mono _ _ _ | exact spec_l4Shape.mono _ _ | exact spec_l4Typed.mono _ _ _ | exact LeO.refl _ | exact LeO.none _ | refine LeO.ite ?_ ?_ | refine LeO.bind ?_ (fun _ => ?_))
set_option maxHeartbeats 8000000 in
set_option maxRecDepth 100000 in
theorem spec_l4Fault.calls (k : Nat) (A0 : Option Addr) (c0 : Nat) (l0 : List (S37)) (r : Int) (w : World) (hr0 : Kd.C k37 w A0 l0.length l0) (hc0 : l0.length ≤ c0) (h : spec_l4Fault.f k l0 = some r) :
    Calls Try.prog 10 #[.slice A0 l0.length c0] w fun e w' => e = .returned (.int .i64 r) ∧ Below w.heap.size w w' := by
 have HR0 := a_ hr0; have HC0 := a_ hc0; clear hr0 hc0; have HB := a_ (Below.refl w.heap.size w); have H : (if (l0.length : Int) < 1 then (spec_l4Fault.j0 k l0 true) else (spec_l4Fault.j0 k l0 (decide ((l0.length : Int) > 24)))) = some r := h; clear h; have HC2 := a_ H; clear H; go_enter Try.func10, Try.ntmps10
 go_upto_region 1 with (fail)
 go_cut [16] (fun v16 wc => ∃ (kq : Nat) (x16_1 : Bool), v16 = .bool x16_1 ∧ Aside0 (spec_l4Fault.j0 kq l0 x16_1 = some r) ∧ Aside0 (kq ≤ k) ∧ Aside0 (Below w.heap.size w wc))
 case first =>
  have H := HC2.out; clear HC2; by_cases cx0 : (l0.length : Int) < 1
  ·rw [if_pos cx0] at H; have cx0b0 : decide ((l0.length : Int) < 1) = true := decide_eq_true cx0; have cx0b1 : decide (l0.length < 1) = true := decide_eq_true y88_; clear cx0; (first | rw [cx0b0] | (simp only [i64_w, i32_w]; rw [cx0b0]) | skip); have H' := a_ H; clear H; go_wp2
   go_meet
   case rel => exact ⟨_, (true), y1_, H', ⟨y45_⟩, ⟨y0_⟩⟩
  ·rw [if_neg cx0] at H; have cx0b0 : decide ((l0.length : Int) < 1) = false := decide_eq_false cx0; have cx0b1 : decide (l0.length < 1) = false := decide_eq_false y88_; clear cx0; (first | rw [cx0b0] | (simp only [i64_w, i32_w]; rw [cx0b0]) | skip); have H' := a_ H; clear H; go_wp2
   go_meet
   case rel => exact ⟨_, (decide ((l0.length : Int) > 24)), y1_, H', ⟨y45_⟩, ⟨y0_⟩⟩
 case rest =>
  clear HC2; obtain ⟨kq, x16_1, rfl, HA, HJ1, HB⟩ := hcut; cases kq with
  | zero => exact absurd HA.out (by simp [spec_l4Fault.j0])
  | succ kj1 =>
   have H := HA.out; clear HA; simp only [spec_l4Fault.j0] at H; by_cases cx0 : x16_1 = true
   ·subst cx0; rw [if_pos rfl] at H; obtain rfl := Option.some.inj H; go_wp2
    go_ret
    exact ⟨y4_, y0_⟩
   ·replace cx0 := Bool.eq_false_iff.mpr cx0; subst cx0; rw [if_neg (show ¬ (false = true) by decide)] at H; have H' := a_ H; clear H; go_wp2
    go_loopg [3] kj1 (fun kq v3 w' => ∃ (x3_2 : Int), v3 = .int .i64 x3_2 ∧ Aside0 (spec_l4Fault.l0 kq l0 x3_2 = some r) ∧ Aside0 (kq ≤ kj1) ∧ Aside0 (Below w.heap.size w w'))
    case atStart => exact ⟨(0), y1_, H', ⟨Nat.le_refl _⟩, ⟨y0_⟩⟩
    case round =>
     clear H'; (try clear cx0); obtain ⟨x3_2, rfl, HA, HK2, HB⟩ := hrel; cases gk with
     | zero => exact absurd HA.out (by simp [spec_l4Fault.l0])
     | succ k2 =>
      have H := HA.out; clear HA; simp only [spec_l4Fault.l0] at H; by_cases cx1 : x3_2 < (l0.length : Int); rw [if_pos cx1] at H; have cx1b0 : decide (x3_2 < (l0.length : Int)) = true := decide_eq_true cx1; clear cx1; replace H := Option.bind_eq_some_iff.mp H; obtain ⟨tx2, Ay2, H⟩ := H; have Ax2 := a_ Ay2; clear Ay2; by_cases cx3 : tx2 = 0; rw [if_pos cx3] at H; have cx3b0 : (tx2 == 0) = true := beq_iff_eq.mpr cx3; have cx3b1 : (tx2 != 0) = false := bne_eq_false_iff_eq.mpr cx3; clear cx3; have H' := a_ H; clear H; have m1_0 := t_; rotate_left; rw [if_neg cx3] at H; have cx3b0 : (tx2 == 0) = false := beq_eq_false_iff_ne.mpr cx3; have cx3b1 : (tx2 != 0) = true := bne_iff_ne.mpr cx3; obtain rfl := Option.some.inj H; have m1_1 := t_; rotate_left; rw [if_neg cx1] at H; have cx1b0 : decide (x3_2 < (l0.length : Int)) = false := decide_eq_false cx1; clear cx1; replace H := Option.bind_eq_some_iff.mp H; obtain ⟨tx2, Ay2, H⟩ := H; have Ax2 := a_ Ay2; clear Ay2; by_cases cx3 : tx2 = 0; rw [if_pos cx3] at H; have cx3b0 : (tx2 == 0) = true := beq_iff_eq.mpr cx3; have cx3b1 : (tx2 != 0) = false := bne_eq_false_iff_eq.mpr cx3; clear cx3; have H' := a_ H; clear H; have m1_2 := t_; rotate_left; rw [if_neg cx3] at H; have cx3b0 : (tx2 == 0) = false := beq_eq_false_iff_ne.mpr cx3; have cx3b1 : (tx2 != 0) = true := bne_iff_ne.mpr cx3; obtain rfl := Option.some.inj H; have m1_3 := t_; rotate_left
      all_goals (
       go_wp2_with (first | ((with_reducible refine gate_callee (f := 20) rfl ?_); refine gc_ 20 25 Try.func20 #[.slice A0 l0.length c0, .int .i64 x3_2] ?_; (with_reducible refine (spec_l4One.calls k2 _ _ l0 x3_2 tx2 _ ?side1 ?side2 Ax2.out).mono ?_); (case side1 => repeat (first | exact (Kd.C_below HR0.out HB.out) | (with_reducible refine Kd.C_alloc ?_ _) | (with_reducible refine Kd.C_drewN ?_ _) | (with_reducible refine Kd.C_drew ?_))); (case side2 => exact HC0.out); rintro e w9891804 ⟨rfl, hb⟩; refine ⟨_, rfl, ?_⟩; have n0_ := a_ (below_step y0_ hb); clear HB; have HB := n0_; clear n0_; (try clear hb); (try clear hb9450139); (try clear hk); (try clear hi)) | ((with_reducible refine gate_callee (f := 21) rfl ?_); refine gc_ 21 30 Try.func21 #[.slice A0 l0.length c0] ?_; (with_reducible refine (spec_l4Shape.calls k2 _ _ l0 tx2 _ ?side1 ?side2 Ax2.out).mono ?_); (case side1 => repeat (first | exact (Kd.C_below HR0.out HB.out) | (with_reducible refine Kd.C_alloc ?_ _) | (with_reducible refine Kd.C_drewN ?_ _) | (with_reducible refine Kd.C_drew ?_))); (case side2 => exact HC0.out); rintro e w9562492 ⟨rfl, hb⟩; refine ⟨_, rfl, ?_⟩; have n0_ := a_ (below_step y0_ hb); clear HB; have HB := n0_; clear n0_; (try clear hb); (try clear hb9204800); (try clear hk); (try clear hi)))
       first
       | fail_if_success clear m1_0
       |(clear m1_0; go_roundg k2
         case measure => have := HJ1.out; have := HK2.out; omega
         case rel => exact ⟨(wrap64 (x3_2 + 1)), y1_, H', ⟨by have := HJ1.out; have := HK2.out; omega⟩, ⟨y0_⟩⟩)
       first
       | fail_if_success clear m1_1
       |(clear m1_1; go_ret
         exact ⟨y4_, y0_⟩)
       first
       | fail_if_success clear m1_2
       |(clear m1_2; go_loopg [6] k2 (fun kq v9234267 w' => ∃ (x6_3 : Int), v9234267 = .int .i64 x6_3 ∧ Aside0 (spec_l4Fault.l1 kq l0 x6_3 = some r) ∧ Aside0 (kq ≤ k2) ∧ Aside0 (Below w.heap.size w w'))
         case atStart => exact ⟨(0), y1_, H', ⟨Nat.le_refl _⟩, ⟨y0_⟩⟩
         case round =>
          clear H'; (try clear cx0); (try clear cx1); (try clear cx1b0); (try clear cx3); (try clear cx3b0); (try clear cx3b1); obtain ⟨x6_3, rfl, HA, HK9487065, HB⟩ := hrel; cases gk with
          | zero => exact absurd HA.out (by simp [spec_l4Fault.l1])
          | succ k3 =>
           have H := HA.out; clear HA; simp only [spec_l4Fault.l1] at H; by_cases cx4 : x6_3 < (l0.length : Int); rw [if_pos cx4] at H; have cx4b0 : decide (x6_3 < (l0.length : Int)) = true := decide_eq_true cx4; clear cx4; by_cases cx5 : 0 ≤ x6_3; rw [if_pos cx5] at H; have cx5b0 : decide (0 ≤ x6_3) = true := decide_eq_true cx5; clear cx5; replace H := Option.bind_eq_some_iff.mp H; obtain ⟨tx6, Ay6, H⟩ := H; have Ax6 := a_ Ay6; clear Ay6; by_cases cx7 : tx6 = 0; rw [if_pos cx7] at H; have cx7b0 : (tx6 == 0) = true := beq_iff_eq.mpr cx7; have cx7b1 : (tx6 != 0) = false := bne_eq_false_iff_eq.mpr cx7; clear cx7; replace H := Option.bind_eq_some_iff.mp H; obtain ⟨tx8, Ay8, H⟩ := H; have Ax8 := a_ Ay8; clear Ay8; by_cases cx9 : tx8 = 0; rw [if_pos cx9] at H; have cx9b0 : (tx8 == 0) = true := beq_iff_eq.mpr cx9; have cx9b1 : (tx8 != 0) = false := bne_eq_false_iff_eq.mpr cx9; clear cx9; have H' := a_ H; clear H; have m2_0 := t_; have m2_1 := t_; have m2_2 := t_; have m2_4 := t_; rotate_left; rw [if_neg cx9] at H; have cx9b0 : (tx8 == 0) = false := beq_eq_false_iff_ne.mpr cx9; have cx9b1 : (tx8 != 0) = true := bne_iff_ne.mpr cx9; obtain rfl := Option.some.inj H; have m2_0 := t_; have m2_1 := t_; have m2_2 := t_; have m2_5 := t_; rotate_left; rw [if_neg cx7] at H; have cx7b0 : (tx6 == 0) = false := beq_eq_false_iff_ne.mpr cx7; have cx7b1 : (tx6 != 0) = true := bne_iff_ne.mpr cx7; obtain rfl := Option.some.inj H; have m2_0 := t_; have m2_3 := t_; have m2_6 := t_; rotate_left
           ·rw [if_neg cx5] at H; exact absurd H y57_
           rw [if_neg cx4] at H; have cx4b0 : decide (x6_3 < (l0.length : Int)) = false := decide_eq_false cx4; clear cx4; obtain rfl := Option.some.inj H; have m2_7 := t_; rotate_left
           all_goals (
            first
            | fail_if_success clear m2_0
            |(clear m2_0; have p9922068 : 0 ≤ (x6_3 : Int) := of_decide_eq_true y2_; have q9922068 : x6_3 < (l0.length : Int) := of_decide_eq_true y2_; obtain ⟨ad9922068, A241_4, c241_4, A241_5, c241_5, e9922068, hx9922068_0, hx9922068_1, hx9922068_2, hx9922068_3, hx9922068_4, hx9922068_5, hl9922068_4, hi241_4, hl9922068_5, hi241_5⟩ := at_T37 HR0.out x6_3 p9922068 q9922068; cases e9922068; replace hx9922068_0 := cT_ HB.out hx9922068_0; replace hx9922068_1 := cT_ HB.out hx9922068_1; replace hx9922068_2 := cT_ HB.out hx9922068_2; replace hx9922068_3 := cT_ HB.out hx9922068_3; replace hx9922068_4 := cT_ HB.out hx9922068_4; replace hx9922068_5 := cT_ HB.out hx9922068_5; have HR241_4 := a_ hi241_4; have HC241_4 := a_ hl9922068_4; clear hi241_4 hl9922068_4; have HR241_5 := a_ hi241_5; have HC241_5 := a_ hl9922068_5; clear hi241_5 hl9922068_5; replace p9922068 := eq_true p9922068; replace q9922068 := eq_true q9922068
              go_wp2_with (first | (have mkq_ := m2_1; clear mkq_; (with_reducible refine gate_callee (f := 22) rfl ?_); refine gc_ 22 45 Try.func22 #[.slice A241_4 ((rd_T37 l0 x6_3).f4).length c241_4, .int .i64 2] ?_; (with_reducible refine (spec_l4Typed.calls k3 _ _ ((rd_T37 l0 x6_3).f4) 2 tx6 _ ?side1 ?side2 Ax6.out).mono ?_); (case side1 => repeat (first | exact (Kd.C_below HR241_4.out HB.out) | (with_reducible refine Kd.C_alloc ?_ _) | (with_reducible refine Kd.C_drewN ?_ _) | (with_reducible refine Kd.C_drew ?_))); (case side2 => exact HC241_4.out); rintro e w9683074 ⟨rfl, hb⟩; refine ⟨_, rfl, ?_⟩; have n0_ := a_ (below_step y0_ hb); clear HB; have HB := n0_; clear n0_; (try clear hb); (try clear hb9204800); (try clear hk); (try clear hi); have p9467685 : 0 ≤ (x6_3 : Int) := of_decide_eq_true y2_; have q9467685 : x6_3 < (l0.length : Int) := of_decide_eq_true y2_; obtain ⟨ad9467685, A243_4, c243_4, A243_5, c243_5, e9467685, hx9467685_0, hx9467685_1, hx9467685_2, hx9467685_3, hx9467685_4, hx9467685_5, hl9467685_4, hi243_4, hl9467685_5, hi243_5⟩ := at_T37 HR0.out x6_3 p9467685 q9467685; obtain rfl : ad9922068 = ad9467685 := (by injection e9467685); replace hx9467685_0 := cT_ HB.out hx9467685_0; replace hx9467685_1 := cT_ HB.out hx9467685_1; replace hx9467685_2 := cT_ HB.out hx9467685_2; replace hx9467685_3 := cT_ HB.out hx9467685_3; replace hx9467685_4 := cT_ HB.out hx9467685_4; replace hx9467685_5 := cT_ HB.out hx9467685_5; have HR243_4 := a_ hi243_4; have HC243_4 := a_ hl9467685_4; clear hi243_4 hl9467685_4; have HR243_5 := a_ hi243_5; have HC243_5 := a_ hl9467685_5; clear hi243_5 hl9467685_5; replace p9467685 := eq_true p9467685; replace q9467685 := eq_true q9467685) | (have mkq_ := m2_2; clear mkq_; (with_reducible refine gate_callee (f := 22) rfl ?_); refine gc_ 22 54 Try.func22 #[.slice A243_5 ((rd_T37 l0 x6_3).f5).length c243_5, .int .i64 1] ?_; (with_reducible refine (spec_l4Typed.calls k3 _ _ ((rd_T37 l0 x6_3).f5) 1 tx8 _ ?side1 ?side2 Ax8.out).mono ?_); (case side1 => repeat (first | exact (Kd.C_below HR243_5.out HB.out) | (with_reducible refine Kd.C_alloc ?_ _) | (with_reducible refine Kd.C_drewN ?_ _) | (with_reducible refine Kd.C_drew ?_))); (case side2 => exact HC243_5.out); rintro e w9036152 ⟨rfl, hb⟩; refine ⟨_, rfl, ?_⟩; have n0_ := a_ (below_step y0_ hb); clear HB; have HB := n0_; clear n0_; (try clear hb); (try clear hb9204800); (try clear hk); (try clear hi)) | (have mkq_ := m2_3; clear mkq_; (with_reducible refine gate_callee (f := 22) rfl ?_); refine gc_ 22 45 Try.func22 #[.slice A241_4 ((rd_T37 l0 x6_3).f4).length c241_4, .int .i64 2] ?_; (with_reducible refine (spec_l4Typed.calls k3 _ _ ((rd_T37 l0 x6_3).f4) 2 tx6 _ ?side1 ?side2 Ax6.out).mono ?_); (case side1 => repeat (first | exact (Kd.C_below HR241_4.out HB.out) | (with_reducible refine Kd.C_alloc ?_ _) | (with_reducible refine Kd.C_drewN ?_ _) | (with_reducible refine Kd.C_drew ?_))); (case side2 => exact HC241_4.out); rintro e w9683074 ⟨rfl, hb⟩; refine ⟨_, rfl, ?_⟩; have n0_ := a_ (below_step y0_ hb); clear HB; have HB := n0_; clear n0_; (try clear hb); (try clear hb9204800); (try clear hk); (try clear hi))))
            first
            | fail_if_success clear m2_4
            |(clear m2_4; go_roundg k3
              case measure => have := HJ1.out; have := HK2.out; have := HK9487065.out; omega
              case rel => exact ⟨(wrap64 (x6_3 + 1)), y1_, H', ⟨by have := HJ1.out; have := HK2.out; have := HK9487065.out; omega⟩, ⟨y0_⟩⟩)
            first
            | fail_if_success clear m2_5
            |(clear m2_5; go_ret
              exact ⟨y4_, y0_⟩)
            first
            | fail_if_success clear m2_6
            |(clear m2_6; go_ret
              exact ⟨y4_, y0_⟩)
            first
            | fail_if_success clear m2_7
            |(clear m2_7; go_wp2
              go_ret
              exact ⟨y4_, y0_⟩)))
       first
       | fail_if_success clear m1_3
       |(clear m1_3; go_ret
         exact ⟨y4_, y0_⟩))

/-! ### spec_l4SameExpr: function 23 -/
def spec_l4SameExpr.l0 : Nat → List (S74) → List (S74) → Int → Option (Bool)
  | 0, _, _, _ => none
  | k + 1, x0, x1, x5 => if x5 < (x0.length : Int) then (if 0 ≤ x5 then (if x5 < (x1.length : Int) then (if (!(((rd_T74 x0 x5).f0) == ((rd_T74 x1 x5).f0)) || (!(((rd_T74 x0 x5).f1) == ((rd_T74 x1 x5).f1)) || (!(((rd_T74 x0 x5).f2) == ((rd_T74 x1 x5).f2)) || (!(((rd_T74 x0 x5).f3) == ((rd_T74 x1 x5).f3)))))) = true then (some false) else (spec_l4SameExpr.l0 k x0 x1 (wrap64 (x5 + 1)))) else (none)) else (none)) else (some true)
def spec_l4SameExpr.f (k : Nat) (l0 : List (S74)) (l1 : List (S74)) : Option (Bool) := if (l0.length : Int) = (l1.length : Int) then (spec_l4SameExpr.l0 k l0 l1 0) else (some false)
theorem spec_l4SameExpr.mono_l : ∀ k, (∀ y0 y1 y2, LeO (spec_l4SameExpr.l0 k y0 y1 y2) (spec_l4SameExpr.l0 (k + 1) y0 y1 y2))
  | 0 => fun _ _ _ r h => by simp [spec_l4SameExpr.l0] at h
  | k + 1 => by
    have ih0 := spec_l4SameExpr.mono_l k
    · intro y0 y1 y2
      unfold spec_l4SameExpr.l0
      repeat' (with_reducible first | exact ih0 _ _ _ | exact LeO.refl _ | exact LeO.none _ | refine LeO.ite ?_ ?_ | refine LeO.bind ?_ (fun _ => ?_))
theorem spec_l4SameExpr.mono : ∀ a0 a1 k, LeO (spec_l4SameExpr.f k a0 a1) (spec_l4SameExpr.f (k + 1) a0 a1) := by
  intro a0 a1 k
  have ih0 := spec_l4SameExpr.mono_l k
  unfold spec_l4SameExpr.f
  repeat' (with_reducible first | exact ih0 _ _ _ | exact LeO.refl _ | exact LeO.none _ | refine LeO.ite ?_ ?_ | refine LeO.bind ?_ (fun _ => ?_))
set_option maxHeartbeats 8000000 in
set_option maxRecDepth 100000 in
theorem spec_l4SameExpr.calls (k : Nat) (A0 : Option Addr) (c0 : Nat) (l0 : List (S74)) (A1 : Option Addr) (c1 : Nat) (l1 : List (S74)) (r : Bool) (w : World) (hr0 : Kd.C k74 w A0 l0.length l0) (hc0 : l0.length ≤ c0) (hr1 : Kd.C k74 w A1 l1.length l1) (hc1 : l1.length ≤ c1) (h : spec_l4SameExpr.f k l0 l1 = some r) :
    Calls Try.prog 23 #[.slice A0 l0.length c0, .slice A1 l1.length c1] w fun e w' => e = .returned (.bool r) ∧ Drawn0 w w' := by
 have hu74 := Try.underlying74; have HR0 := a_ hr0; have HC0 := a_ hc0; clear hr0 hc0; have HR1 := a_ hr1; have HC1 := a_ hc1; clear hr1 hc1; have H : (if (l0.length : Int) = (l1.length : Int) then (spec_l4SameExpr.l0 k l0 l1 0) else (some false)) = some r := h; clear h; by_cases cx0 : (l0.length : Int) = (l1.length : Int)
 ·rw [if_pos cx0] at H; have cx0b0 : ((l0.length : Int) == (l1.length : Int)) = true := beq_iff_eq.mpr cx0; have cx0b1 : ((l0.length : Int) != (l1.length : Int)) = false := bne_eq_false_iff_eq.mpr cx0; have cx0b2 : (l0.length == l1.length) = true := by first | simpa using cx0 | (simp at cx0 ⊢; omega)
  clear cx0; have H' := a_ H; clear H; go_enter Try.func23, Try.ntmps23
  go_wp2
  repeat (go_quiet (fail); try go_wp2)
  go_loopg [5] k (fun kq v5 w' => ∃ (x5_1 : Int), v5 = .int .i64 x5_1 ∧ Aside0 (spec_l4SameExpr.l0 kq l0 l1 x5_1 = some r) ∧ Aside0 (kq ≤ k) ∧ Drawn0 w w')
  case atStart => exact ⟨(0), y1_, H', ⟨Nat.le_refl _⟩, y9_⟩
  case round =>
   clear H'; (try clear cx0); (try clear cx0b0); (try clear cx0b1); (try clear cx0b2); obtain ⟨x5_1, rfl, HA, HK1, ⟨m1, rfl⟩⟩ := hrel; cases gk with
   | zero => exact absurd HA.out (by simp [spec_l4SameExpr.l0])
   | succ k1 =>
    have H := HA.out; clear HA; simp only [spec_l4SameExpr.l0] at H; by_cases cx1 : x5_1 < (l0.length : Int); rw [if_pos cx1] at H; have cx1b0 : decide (x5_1 < (l0.length : Int)) = true := decide_eq_true cx1; clear cx1; by_cases cx2 : 0 ≤ x5_1; rw [if_pos cx2] at H; have cx2b0 : decide (0 ≤ x5_1) = true := decide_eq_true cx2; clear cx2; by_cases cx3 : x5_1 < (l1.length : Int); rw [if_pos cx3] at H; have cx3b0 : decide (x5_1 < (l1.length : Int)) = true := decide_eq_true cx3; clear cx3; by_cases cx4 : (!(((rd_T74 l0 x5_1).f0) == ((rd_T74 l1 x5_1).f0)) || (!(((rd_T74 l0 x5_1).f1) == ((rd_T74 l1 x5_1).f1)) || (!(((rd_T74 l0 x5_1).f2) == ((rd_T74 l1 x5_1).f2)) || (!(((rd_T74 l0 x5_1).f3) == ((rd_T74 l1 x5_1).f3)))))) = true; rw [if_pos cx4] at H; have cx4b0 : (!(((rd_T74 l0 x5_1).f0) == ((rd_T74 l1 x5_1).f0)) || (!(((rd_T74 l0 x5_1).f1) == ((rd_T74 l1 x5_1).f1)) || (!(((rd_T74 l0 x5_1).f2) == ((rd_T74 l1 x5_1).f2)) || (!(((rd_T74 l0 x5_1).f3) == ((rd_T74 l1 x5_1).f3)))))) = true := cx4; clear cx4; obtain rfl := Option.some.inj H; have m1_0 := t_; have m1_1 := t_; rotate_left; rw [if_neg cx4] at H; have cx4b0 : (!(((rd_T74 l0 x5_1).f0) == ((rd_T74 l1 x5_1).f0)) || (!(((rd_T74 l0 x5_1).f1) == ((rd_T74 l1 x5_1).f1)) || (!(((rd_T74 l0 x5_1).f2) == ((rd_T74 l1 x5_1).f2)) || (!(((rd_T74 l0 x5_1).f3) == ((rd_T74 l1 x5_1).f3)))))) = false := by simpa using cx4
    clear cx4; have H' := a_ H; clear H; have m1_0 := t_; have m1_2 := t_; rotate_left
    ·rw [if_neg cx3] at H; exact absurd H y57_
    ·rw [if_neg cx2] at H; exact absurd H y57_
    rw [if_neg cx1] at H; have cx1b0 : decide (x5_1 < (l0.length : Int)) = false := decide_eq_false cx1; clear cx1; obtain rfl := Option.some.inj H; have m1_3 := t_; rotate_left
    all_goals (
     first
     | fail_if_success clear m1_0
     |(clear m1_0; have p9922068 : 0 ≤ (x5_1 : Int) := of_decide_eq_true y2_; have q9922068 : x5_1 < (l0.length : Int) := of_decide_eq_true y2_; obtain ⟨ad9922068, e9922068, hx9922068_0, hx9922068_1, hx9922068_2, hx9922068_3⟩ := at_T74 HR0.out x5_1 p9922068 q9922068; cases e9922068; replace p9922068 := eq_true p9922068; replace q9922068 := eq_true q9922068; have p9548309 : 0 ≤ (x5_1 : Int) := of_decide_eq_true y2_; have q9548309 : x5_1 < (l1.length : Int) := of_decide_eq_true y2_; obtain ⟨ad9548309, e9548309, hx9548309_0, hx9548309_1, hx9548309_2, hx9548309_3⟩ := at_T74 HR1.out x5_1 p9548309 q9548309; cases e9548309; replace p9548309 := eq_true p9548309; replace q9548309 := eq_true q9548309; go_wp2
       repeat (go_quiet (fail); try go_wp2))
     first
     | fail_if_success clear m1_1
     |(clear m1_1; go_ret
       exact ⟨y1_, y9_⟩)
     first
     | fail_if_success clear m1_2
     |(clear m1_2; go_roundg k1
       case measure => have := HK1.out; omega
       case rel => exact ⟨(wrap64 (x5_1 + 1)), y1_, H', ⟨y72_⟩, y9_⟩)
     first
     | fail_if_success clear m1_3
     |(clear m1_3; go_wp2
       repeat (go_quiet (fail); try go_wp2)
       go_ret
       exact ⟨y1_, y9_⟩))
 ·rw [if_neg cx0] at H; have cx0b0 : ((l0.length : Int) == (l1.length : Int)) = false := beq_eq_false_iff_ne.mpr cx0; have cx0b1 : ((l0.length : Int) != (l1.length : Int)) = true := bne_iff_ne.mpr cx0; have cx0b2 : (l0.length == l1.length) = false := by first | simpa using cx0 | (simp at cx0 ⊢; omega)
  obtain rfl := Option.some.inj H; go_enter Try.func23, Try.ntmps23
  go_wp2
  repeat (go_quiet (fail); try go_wp2)
  go_ret
  exact ⟨y1_, y9_⟩

/-! ### spec_SameProcs: function 11 -/
def spec_SameProcs.l0 : Nat → List (S37) → List (S37) → Int → Option (Bool)
  | 0, _, _, _ => none
  | k + 1, x0, x1, x5 => if x5 < (x0.length : Int) then (if 0 ≤ x5 then (if x5 < (x1.length : Int) then (if ((rd_T37 x0 x5).f0) = ((rd_T37 x1 x5).f0) then (if ((rd_T37 x0 x5).f1) = ((rd_T37 x1 x5).f1) then (if ((rd_T37 x0 x5).f2).toList = ((rd_T37 x1 x5).f2).toList then (if ((rd_T37 x0 x5).f3) = ((rd_T37 x1 x5).f3) then ((spec_l4SameExpr.f k ((rd_T37 x0 x5).f4) ((rd_T37 x1 x5).f4)).bind fun t251 => (if t251 = true then ((spec_l4SameExpr.f k ((rd_T37 x0 x5).f5) ((rd_T37 x1 x5).f5)).bind fun t252 => (if t252 = true then (spec_SameProcs.l0 k x0 x1 (wrap64 (x5 + 1))) else (some false))) else (some false))) else (some false)) else (some false)) else (some false)) else (some false)) else (none)) else (none)) else (some true)
def spec_SameProcs.f (k : Nat) (l0 : List (S37)) (l1 : List (S37)) : Option (Bool) := if (l0.length : Int) = (l1.length : Int) then (spec_SameProcs.l0 k l0 l1 0) else (some false)
theorem spec_SameProcs.mono_l : ∀ k, (∀ y0 y1 y2, LeO (spec_SameProcs.l0 k y0 y1 y2) (spec_SameProcs.l0 (k + 1) y0 y1 y2))
  | 0 => fun _ _ _ r h => by simp [spec_SameProcs.l0] at h
  | k + 1 => by
    have ih0 := spec_SameProcs.mono_l k
    · intro y0 y1 y2
      unfold spec_SameProcs.l0
      repeat' (with_reducible first | exact ih0 _ _ _ | exact spec_l4SameExpr.mono _ _ _ | exact LeO.refl _ | exact LeO.none _ | refine LeO.ite ?_ ?_ | refine LeO.bind ?_ (fun _ => ?_))
theorem spec_SameProcs.mono : ∀ a0 a1 k, LeO (spec_SameProcs.f k a0 a1) (spec_SameProcs.f (k + 1) a0 a1) := by
  intro a0 a1 k
  have ih0 := spec_SameProcs.mono_l k
  unfold spec_SameProcs.f
  repeat' (with_reducible first | exact ih0 _ _ _ | exact spec_l4SameExpr.mono _ _ _ | exact LeO.refl _ | exact LeO.none _ | refine LeO.ite ?_ ?_ | refine LeO.bind ?_ (fun _ => ?_))
set_option maxHeartbeats 8000000 in
set_option maxRecDepth 100000 in
theorem spec_SameProcs.calls (k : Nat) (A0 : Option Addr) (c0 : Nat) (l0 : List (S37)) (A1 : Option Addr) (c1 : Nat) (l1 : List (S37)) (r : Bool) (w : World) (hr0 : Kd.C k37 w A0 l0.length l0) (hc0 : l0.length ≤ c0) (hr1 : Kd.C k37 w A1 l1.length l1) (hc1 : l1.length ≤ c1) (h : spec_SameProcs.f k l0 l1 = some r) :
    Calls Try.prog 11 #[.slice A0 l0.length c0, .slice A1 l1.length c1] w fun e w' => e = .returned (.bool r) ∧ Drawn0 w w' := by
 have HR0 := a_ hr0; have HC0 := a_ hc0; clear hr0 hc0; have HR1 := a_ hr1; have HC1 := a_ hc1; clear hr1 hc1; have H : (if (l0.length : Int) = (l1.length : Int) then (spec_SameProcs.l0 k l0 l1 0) else (some false)) = some r := h; clear h; by_cases cx0 : (l0.length : Int) = (l1.length : Int)
 ·rw [if_pos cx0] at H; have cx0b0 : ((l0.length : Int) == (l1.length : Int)) = true := beq_iff_eq.mpr cx0; have cx0b1 : ((l0.length : Int) != (l1.length : Int)) = false := bne_eq_false_iff_eq.mpr cx0; have cx0b2 : (l0.length == l1.length) = true := by first | simpa using cx0 | (simp at cx0 ⊢; omega)
  clear cx0; have H' := a_ H; clear H; go_enter Try.func11, Try.ntmps11
  go_wp2
  repeat (go_quiet (fail); try go_wp2)
  go_loopg [5] k (fun kq v5 w' => ∃ (x5_1 : Int), v5 = .int .i64 x5_1 ∧ Aside0 (spec_SameProcs.l0 kq l0 l1 x5_1 = some r) ∧ Aside0 (kq ≤ k) ∧ Drawn0 w w')
  case atStart => exact ⟨(0), y1_, H', ⟨Nat.le_refl _⟩, y9_⟩
  case round =>
   clear H'; (try clear cx0); (try clear cx0b0); (try clear cx0b1); (try clear cx0b2); obtain ⟨x5_1, rfl, HA, HK1, ⟨m1, rfl⟩⟩ := hrel; cases gk with
   | zero => exact absurd HA.out (by simp [spec_SameProcs.l0])
   | succ k1 =>
    have H := HA.out; clear HA; simp only [spec_SameProcs.l0] at H; by_cases cx1 : x5_1 < (l0.length : Int); rw [if_pos cx1] at H; have cx1b0 : decide (x5_1 < (l0.length : Int)) = true := decide_eq_true cx1; clear cx1; by_cases cx2 : 0 ≤ x5_1; rw [if_pos cx2] at H; have cx2b0 : decide (0 ≤ x5_1) = true := decide_eq_true cx2; clear cx2; by_cases cx3 : x5_1 < (l1.length : Int); rw [if_pos cx3] at H; have cx3b0 : decide (x5_1 < (l1.length : Int)) = true := decide_eq_true cx3; clear cx3; by_cases cx4 : ((rd_T37 l0 x5_1).f0) = ((rd_T37 l1 x5_1).f0); rw [if_pos cx4] at H; have cx4b0 : (((rd_T37 l0 x5_1).f0) == ((rd_T37 l1 x5_1).f0)) = true := beq_iff_eq.mpr cx4; have cx4b1 : (((rd_T37 l0 x5_1).f0) != ((rd_T37 l1 x5_1).f0)) = false := bne_eq_false_iff_eq.mpr cx4; clear cx4; by_cases cx5 : ((rd_T37 l0 x5_1).f1) = ((rd_T37 l1 x5_1).f1); rw [if_pos cx5] at H; have cx5b0 : (((rd_T37 l0 x5_1).f1) == ((rd_T37 l1 x5_1).f1)) = true := beq_iff_eq.mpr cx5; have cx5b1 : (((rd_T37 l0 x5_1).f1) != ((rd_T37 l1 x5_1).f1)) = false := bne_eq_false_iff_eq.mpr cx5; clear cx5; by_cases cx6 : ((rd_T37 l0 x5_1).f2).toList = ((rd_T37 l1 x5_1).f2).toList; rw [if_pos cx6] at H; have cx6b0 : (((rd_T37 l0 x5_1).f2).toList == ((rd_T37 l1 x5_1).f2).toList) = true := beq_iff_eq.mpr cx6; have cx6b1 : (((rd_T37 l0 x5_1).f2).toList != ((rd_T37 l1 x5_1).f2).toList) = false := bne_eq_false_iff_eq.mpr cx6; clear cx6; by_cases cx7 : ((rd_T37 l0 x5_1).f3) = ((rd_T37 l1 x5_1).f3); rw [if_pos cx7] at H; have cx7b0 : (((rd_T37 l0 x5_1).f3) == ((rd_T37 l1 x5_1).f3)) = true := beq_iff_eq.mpr cx7; have cx7b1 : (((rd_T37 l0 x5_1).f3) != ((rd_T37 l1 x5_1).f3)) = false := bne_eq_false_iff_eq.mpr cx7; clear cx7; replace H := Option.bind_eq_some_iff.mp H; obtain ⟨tx8, Ay8, H⟩ := H; have Ax8 := a_ Ay8; clear Ay8; by_cases cx9 : tx8 = true; subst cx9; rw [if_pos rfl] at H; replace H := Option.bind_eq_some_iff.mp H; obtain ⟨tx10, Ay10, H⟩ := H; have Ax10 := a_ Ay10; clear Ay10; by_cases cx11 : tx10 = true; subst cx11; rw [if_pos rfl] at H; have H' := a_ H; clear H; have m1_0 := t_; have m1_1 := t_; have m1_2 := t_; have m1_3 := t_; rotate_left; replace cx11 := Bool.eq_false_iff.mpr cx11; subst cx11; rw [if_neg (show ¬ (false = true) by decide)] at H; obtain rfl := Option.some.inj H; have m1_0 := t_; have m1_1 := t_; have m1_2 := t_; have m1_4 := t_; rotate_left; replace cx9 := Bool.eq_false_iff.mpr cx9; subst cx9; rw [if_neg (show ¬ (false = true) by decide)] at H; obtain rfl := Option.some.inj H; have m1_0 := t_; have m1_1 := t_; have m1_5 := t_; rotate_left; rw [if_neg cx7] at H; have cx7b0 : (((rd_T37 l0 x5_1).f3) == ((rd_T37 l1 x5_1).f3)) = false := beq_eq_false_iff_ne.mpr cx7; have cx7b1 : (((rd_T37 l0 x5_1).f3) != ((rd_T37 l1 x5_1).f3)) = true := bne_iff_ne.mpr cx7; obtain rfl := Option.some.inj H; have m1_0 := t_; have m1_6 := t_; rotate_left
    rw [if_neg cx6] at H; have cx6b0 : (((rd_T37 l0 x5_1).f2).toList == ((rd_T37 l1 x5_1).f2).toList) = false := beq_eq_false_iff_ne.mpr cx6; have cx6b1 : (((rd_T37 l0 x5_1).f2).toList != ((rd_T37 l1 x5_1).f2).toList) = true := bne_iff_ne.mpr cx6; obtain rfl := Option.some.inj H; have m1_0 := t_; have m1_7 := t_; rotate_left; rw [if_neg cx5] at H; have cx5b0 : (((rd_T37 l0 x5_1).f1) == ((rd_T37 l1 x5_1).f1)) = false := beq_eq_false_iff_ne.mpr cx5; have cx5b1 : (((rd_T37 l0 x5_1).f1) != ((rd_T37 l1 x5_1).f1)) = true := bne_iff_ne.mpr cx5; obtain rfl := Option.some.inj H; have m1_0 := t_; have m1_8 := t_; rotate_left; rw [if_neg cx4] at H; have cx4b0 : (((rd_T37 l0 x5_1).f0) == ((rd_T37 l1 x5_1).f0)) = false := beq_eq_false_iff_ne.mpr cx4; have cx4b1 : (((rd_T37 l0 x5_1).f0) != ((rd_T37 l1 x5_1).f0)) = true := bne_iff_ne.mpr cx4; obtain rfl := Option.some.inj H; have m1_0 := t_; have m1_9 := t_; rotate_left
    ·rw [if_neg cx3] at H; exact absurd H y57_
    ·rw [if_neg cx2] at H; exact absurd H y57_
    rw [if_neg cx1] at H; have cx1b0 : decide (x5_1 < (l0.length : Int)) = false := decide_eq_false cx1; clear cx1; obtain rfl := Option.some.inj H; have m1_10 := t_; rotate_left
    all_goals (
     first
     | fail_if_success clear m1_0
     |(clear m1_0; have p9922068 : 0 ≤ (x5_1 : Int) := of_decide_eq_true y2_; have q9922068 : x5_1 < (l0.length : Int) := of_decide_eq_true y2_; obtain ⟨ad9922068, A247_4, c247_4, A247_5, c247_5, e9922068, hx9922068_0, hx9922068_1, hx9922068_2, hx9922068_3, hx9922068_4, hx9922068_5, hl9922068_4, hi247_4, hl9922068_5, hi247_5⟩ := at_T37 HR0.out x5_1 p9922068 q9922068; cases e9922068; have HR247_4 := a_ hi247_4; have HC247_4 := a_ hl9922068_4; clear hi247_4 hl9922068_4; have HR247_5 := a_ hi247_5; have HC247_5 := a_ hl9922068_5; clear hi247_5 hl9922068_5; replace p9922068 := eq_true p9922068; replace q9922068 := eq_true q9922068; have p9548309 : 0 ≤ (x5_1 : Int) := of_decide_eq_true y2_; have q9548309 : x5_1 < (l1.length : Int) := of_decide_eq_true y2_; obtain ⟨ad9548309, A248_4, c248_4, A248_5, c248_5, e9548309, hx9548309_0, hx9548309_1, hx9548309_2, hx9548309_3, hx9548309_4, hx9548309_5, hl9548309_4, hi248_4, hl9548309_5, hi248_5⟩ := at_T37 HR1.out x5_1 p9548309 q9548309; cases e9548309; have HR248_4 := a_ hi248_4; have HC248_4 := a_ hl9548309_4; clear hi248_4 hl9548309_4; have HR248_5 := a_ hi248_5; have HC248_5 := a_ hl9548309_5; clear hi248_5 hl9548309_5; replace p9548309 := eq_true p9548309; replace q9548309 := eq_true q9548309; have p9058667 : 0 ≤ (x5_1 : Int) := of_decide_eq_true y2_; have q9058667 : x5_1 < (l0.length : Int) := of_decide_eq_true y2_; obtain ⟨ad9058667, A249_4, c249_4, A249_5, c249_5, e9058667, hx9058667_0, hx9058667_1, hx9058667_2, hx9058667_3, hx9058667_4, hx9058667_5, hl9058667_4, hi249_4, hl9058667_5, hi249_5⟩ := at_T37 HR0.out x5_1 p9058667 q9058667; obtain rfl : ad9922068 = ad9058667 := (by injection e9058667); have HR249_4 := a_ hi249_4; have HC249_4 := a_ hl9058667_4; clear hi249_4 hl9058667_4; have HR249_5 := a_ hi249_5; have HC249_5 := a_ hl9058667_5; clear hi249_5 hl9058667_5; replace p9058667 := eq_true p9058667; replace q9058667 := eq_true q9058667; have ea_ := Option.some.inj (hx9922068_4.symm.trans hx9058667_4); injection ea_ with ea_ en_ ec_; subst ea_; subst ec_; clear en_; have ea_ := Option.some.inj (hx9922068_5.symm.trans hx9058667_5); injection ea_ with ea_ en_ ec_; subst ea_; subst ec_; clear en_; have p9450402 : 0 ≤ (x5_1 : Int) := of_decide_eq_true y2_; have q9450402 : x5_1 < (l1.length : Int) := of_decide_eq_true y2_
       obtain ⟨ad9450402, A250_4, c250_4, A250_5, c250_5, e9450402, hx9450402_0, hx9450402_1, hx9450402_2, hx9450402_3, hx9450402_4, hx9450402_5, hl9450402_4, hi250_4, hl9450402_5, hi250_5⟩ := at_T37 HR1.out x5_1 p9450402 q9450402; obtain rfl : ad9548309 = ad9450402 := (by injection e9450402); have HR250_4 := a_ hi250_4; have HC250_4 := a_ hl9450402_4; clear hi250_4 hl9450402_4; have HR250_5 := a_ hi250_5; have HC250_5 := a_ hl9450402_5; clear hi250_5 hl9450402_5; replace p9450402 := eq_true p9450402; replace q9450402 := eq_true q9450402; have ea_ := Option.some.inj (hx9548309_4.symm.trans hx9450402_4); injection ea_ with ea_ en_ ec_; subst ea_; subst ec_; clear en_; have ea_ := Option.some.inj (hx9548309_5.symm.trans hx9450402_5); injection ea_ with ea_ en_ ec_; subst ea_; subst ec_; clear en_)
     first
     | fail_if_success clear m1_1
     |(clear m1_1
       go_wp2_with (first | (go_at_call 23; (with_reducible refine (spec_l4SameExpr.calls k1 _ _ ((rd_T37 l0 x5_1).f4) _ _ ((rd_T37 l1 x5_1).f4) _ _ ?side1 ?side2 ?side3 ?side4 Ax8.out).mono ?_); (case side1 => repeat (first | exact HR249_4.out | (with_reducible refine Kd.C_alloc ?_ _) | (with_reducible refine Kd.C_drewN ?_ _) | (with_reducible refine Kd.C_drew ?_))); (case side2 => exact HC249_4.out); (case side3 => repeat (first | exact HR250_4.out | (with_reducible refine Kd.C_alloc ?_ _) | (with_reducible refine Kd.C_drewN ?_ _) | (with_reducible refine Kd.C_drew ?_))); (case side4 => exact HC250_4.out); rintro e w' ⟨rfl, ⟨nd, rfl⟩⟩; (try first | exact ⟨rfl, _, World.drewN_drewN _ _ _⟩ | exact ⟨rfl, _, Eq.trans (World.drewN_drewN _ _ _) (congrArg (World.drewN _) (Nat.add_assoc _ _ _))⟩)) | (have mkq_ := m1_2; clear mkq_; go_at_call 23; (with_reducible refine (spec_l4SameExpr.calls k1 _ _ ((rd_T37 l0 x5_1).f5) _ _ ((rd_T37 l1 x5_1).f5) _ _ ?side1 ?side2 ?side3 ?side4 Ax10.out).mono ?_); (case side1 => repeat (first | exact HR249_5.out | (with_reducible refine Kd.C_alloc ?_ _) | (with_reducible refine Kd.C_drewN ?_ _) | (with_reducible refine Kd.C_drew ?_))); (case side2 => exact HC249_5.out); (case side3 => repeat (first | exact HR250_5.out | (with_reducible refine Kd.C_alloc ?_ _) | (with_reducible refine Kd.C_drewN ?_ _) | (with_reducible refine Kd.C_drew ?_))); (case side4 => exact HC250_5.out); rintro e w' ⟨rfl, ⟨nd, rfl⟩⟩; (try first | exact ⟨rfl, _, World.drewN_drewN _ _ _⟩ | exact ⟨rfl, _, Eq.trans (World.drewN_drewN _ _ _) (congrArg (World.drewN _) (Nat.add_assoc _ _ _))⟩))); repeat (go_quiet (first | (go_at_call 23; (with_reducible refine (spec_l4SameExpr.calls k1 _ _ ((rd_T37 l0 x5_1).f4) _ _ ((rd_T37 l1 x5_1).f4) _ _ ?side1 ?side2 ?side3 ?side4 Ax8.out).mono ?_); (case side1 => repeat (first | exact HR249_4.out | (with_reducible refine Kd.C_alloc ?_ _) | (with_reducible refine Kd.C_drewN ?_ _) | (with_reducible refine Kd.C_drew ?_))); (case side2 => exact HC249_4.out); (case side3 => repeat (first | exact HR250_4.out | (with_reducible refine Kd.C_alloc ?_ _) | (with_reducible refine Kd.C_drewN ?_ _) | (with_reducible refine Kd.C_drew ?_))); (case side4 => exact HC250_4.out); rintro e w' ⟨rfl, ⟨nd, rfl⟩⟩; (try first | exact ⟨rfl, _, World.drewN_drewN _ _ _⟩ | exact ⟨rfl, _, Eq.trans (World.drewN_drewN _ _ _) (congrArg (World.drewN _) (Nat.add_assoc _ _ _))⟩)) | (go_at_call 23; (with_reducible refine (spec_l4SameExpr.calls k1 _ _ ((rd_T37 l0 x5_1).f5) _ _ ((rd_T37 l1 x5_1).f5) _ _ ?side1 ?side2 ?side3 ?side4 Ax10.out).mono ?_); (case side1 => repeat (first | exact HR249_5.out | (with_reducible refine Kd.C_alloc ?_ _) | (with_reducible refine Kd.C_drewN ?_ _) | (with_reducible refine Kd.C_drew ?_))); (case side2 => exact HC249_5.out); (case side3 => repeat (first | exact HR250_5.out | (with_reducible refine Kd.C_alloc ?_ _) | (with_reducible refine Kd.C_drewN ?_ _) | (with_reducible refine Kd.C_drew ?_))); (case side4 => exact HC250_5.out); rintro e w' ⟨rfl, ⟨nd, rfl⟩⟩; (try first | exact ⟨rfl, _, World.drewN_drewN _ _ _⟩ | exact ⟨rfl, _, Eq.trans (World.drewN_drewN _ _ _) (congrArg (World.drewN _) (Nat.add_assoc _ _ _))⟩))); try go_wp2))
     first
     | fail_if_success clear m1_3
     |(clear m1_3; go_roundg k1
       case measure => have := HK1.out; omega
       case rel => exact ⟨(wrap64 (x5_1 + 1)), y1_, H', ⟨y72_⟩, y9_⟩)
     first
     | fail_if_success clear m1_4
     |(clear m1_4; go_ret
       exact ⟨y1_, y9_⟩)
     first
     | fail_if_success clear m1_5
     |(clear m1_5; go_ret
       exact ⟨y1_, y9_⟩)
     first
     | fail_if_success clear m1_6
     |(clear m1_6; go_wp2
       repeat (go_quiet (fail); try go_wp2)
       go_ret
       exact ⟨y1_, y9_⟩)
     first
     | fail_if_success clear m1_7
     |(clear m1_7; go_wp2
       repeat (go_quiet (fail); try go_wp2)
       go_ret
       exact ⟨y1_, y9_⟩)
     first
     | fail_if_success clear m1_8
     |(clear m1_8; go_wp2
       repeat (go_quiet (fail); try go_wp2)
       go_ret
       exact ⟨y1_, y9_⟩)
     first
     | fail_if_success clear m1_9
     |(clear m1_9; go_wp2
       repeat (go_quiet (fail); try go_wp2)
       go_ret
       exact ⟨y1_, y9_⟩)
     first
     | fail_if_success clear m1_10
     |(clear m1_10; go_wp2
       repeat (go_quiet (fail); try go_wp2)
       go_ret
       exact ⟨y1_, y9_⟩))
 ·rw [if_neg cx0] at H; have cx0b0 : ((l0.length : Int) == (l1.length : Int)) = false := beq_eq_false_iff_ne.mpr cx0; have cx0b1 : ((l0.length : Int) != (l1.length : Int)) = true := bne_iff_ne.mpr cx0; have cx0b2 : (l0.length == l1.length) = false := by first | simpa using cx0 | (simp at cx0 ⊢; omega)
  obtain rfl := Option.some.inj H; go_enter Try.func11, Try.ntmps11
  go_wp2
  repeat (go_quiet (fail); try go_wp2)
  go_ret
  exact ⟨y1_, y9_⟩

-- NOT PRINTED: function 24 (spec_l7Plain)

-- NOT PRINTED: function 25 (spec_l7Grow)

end Go.Proofs.Ytjbcpghpafacaaa.I
