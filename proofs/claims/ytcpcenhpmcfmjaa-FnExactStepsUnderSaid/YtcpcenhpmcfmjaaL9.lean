-- Written by a program of this session's own (xp.py) for this seat.
import Derived.Test.YtcpcenhpmcfmjaaLZ
import Derived.Test.YtcpcenhpmcfmjaaL0
import Derived.Test.YtcpcenhpmcfmjaaL5
import Derived.Test.YtcpcenhpmcfmjaaL7
import Derived.Test.YtcpcenhpmcfmjaaL8
namespace Go.Proofs.Ytcpcenhpmcfmjaa.L
open Go.RowKit Go.Proofs.YtcpcenhpmcfmjaaW.PrintWords Go.Proofs.YtcpcenhpmcfmjaaW.PrintLast Go.Proofs.YtcpcenhpmcfmjaaW.PrintMore
attribute [local go_sem] Instr.field asAgg
attribute [local go_sem] max2_int min2_int max_two min_two max_three min_three max_four min_four   -- for this text's walks alone
set_option linter.unusedVariables false
set_option linter.unusedSimpArgs false

/-! ### spec_l4Fault: function 54 -/
mutual
def spec_l4Fault.j0 : Nat → List (S78) → Bool → Option (Int)
  | 0, _, _ => none
  | k + 1, x0, x16 => if x16 = true then (some 2) else (spec_l4Fault.l0 k x0 0)
def spec_l4Fault.l0 : Nat → List (S78) → Int → Option (Int)
  | 0, _, _ => none
  | k + 1, x0, x3 => if x3 < (x0.length : Int) then ((spec_l4One.f k x0 x3).bind fun t299 => (if t299 = 0 then (spec_l4Fault.l0 k x0 (wrap64 (x3 + 1))) else (some t299))) else ((spec_l4Shape.f k x0).bind fun t300 => (if t300 = 0 then (spec_l4Fault.l1 k x0 0) else (some t300)))
def spec_l4Fault.l1 : Nat → List (S78) → Int → Option (Int)
  | 0, _, _ => none
  | k + 1, x0, x6 => if x6 < (x0.length : Int) then (if 0 ≤ x6 then ((spec_l4Typed.f k ((rd_T78 x0 x6).f4) 2).bind fun t302 => (if t302 = 0 then ((spec_l4Typed.f k ((rd_T78 x0 x6).f5) 1).bind fun t304 => (if t304 = 0 then (spec_l4Fault.l1 k x0 (wrap64 (x6 + 1))) else (some t304))) else (some t302))) else (none)) else (some 0)
end
def spec_l4Fault.f (k : Nat) (l0 : List (S78)) : Option (Int) := if (l0.length : Int) < 1 then (spec_l4Fault.j0 k l0 true) else (spec_l4Fault.j0 k l0 (decide ((l0.length : Int) > 24)))
theorem spec_l4Fault.mono_l : ∀ k, (∀ y0 y1, LeO (spec_l4Fault.j0 k y0 y1) (spec_l4Fault.j0 (k + 1) y0 y1)) ∧ (∀ y0 y1, LeO (spec_l4Fault.l0 k y0 y1) (spec_l4Fault.l0 (k + 1) y0 y1)) ∧ (∀ y0 y1, LeO (spec_l4Fault.l1 k y0 y1) (spec_l4Fault.l1 (k + 1) y0 y1))
  | 0 => ⟨fun _ _ r h => by simp [spec_l4Fault.j0] at h, fun _ _ r h => by simp [spec_l4Fault.l0] at h, fun _ _ r h => by simp [spec_l4Fault.l1] at h⟩
  | k + 1 => by
    obtain ⟨ih0, ih1, ih2⟩ := spec_l4Fault.mono_l k
    refine ⟨?_, ?_, ?_⟩
    · intro y0 y1
      unfold spec_l4Fault.j0
      repeat' (with_reducible first | exact ih0 _ _ | exact ih1 _ _ | exact ih2 _ _ | exact spec_l4One.mono _ _ _ | exact spec_l4Shape.mono _ _ | exact spec_l4Typed.mono _ _ _ | exact LeO.refl _ | exact LeO.none _ | refine LeO.ite ?_ ?_ | refine LeO.bind ?_ (fun _ => ?_))
    · intro y0 y1
      unfold spec_l4Fault.l0
      repeat' (with_reducible first | exact ih0 _ _ | exact ih1 _ _ | exact ih2 _ _ | exact spec_l4One.mono _ _ _ | exact spec_l4Shape.mono _ _ | exact spec_l4Typed.mono _ _ _ | exact LeO.refl _ | exact LeO.none _ | refine LeO.ite ?_ ?_ | refine LeO.bind ?_ (fun _ => ?_))
    · intro y0 y1
      unfold spec_l4Fault.l1
      repeat' (with_reducible first | exact ih0 _ _ | exact ih1 _ _ | exact ih2 _ _ | exact spec_l4One.mono _ _ _ | exact spec_l4Shape.mono _ _ | exact spec_l4Typed.mono _ _ _ | exact LeO.refl _ | exact LeO.none _ | refine LeO.ite ?_ ?_ | refine LeO.bind ?_ (fun _ => ?_))
theorem spec_l4Fault.mono : ∀ a0 k, LeO (spec_l4Fault.f k a0) (spec_l4Fault.f (k + 1) a0) := by
  intro a0 k
  obtain ⟨ih0, ih1, ih2⟩ := spec_l4Fault.mono_l k
  unfold spec_l4Fault.f
  repeat' (with_reducible first | exact ih0 _ _ | exact ih1 _ _ | exact ih2 _ _ | exact spec_l4One.mono _ _ _ | exact spec_l4Shape.mono _ _ | exact spec_l4Typed.mono _ _ _ | exact LeO.refl _ | exact LeO.none _ | refine LeO.ite ?_ ?_ | refine LeO.bind ?_ (fun _ => ?_))
set_option maxHeartbeats 8000000 in
set_option maxRecDepth 100000 in
theorem spec_l4Fault.calls (k : Nat) (A0 : Option Addr) (c0 : Nat) (l0 : List (S78)) (r : Int) (w : World) (hr0 : Kd.C k78 w A0 l0.length l0) (hc0 : l0.length ≤ c0) (h : spec_l4Fault.f k l0 = some r) :
    Calls Try.prog 54 #[.slice A0 l0.length c0] w fun e w' => e = .returned (.int .i64 r) ∧ Below w.heap.size w w' := by
 have HR0 := a_ hr0; have HC0 := a_ hc0; clear hr0 hc0; have HB := a_ (Below.refl w.heap.size w); have H : (if (l0.length : Int) < 1 then (spec_l4Fault.j0 k l0 true) else (spec_l4Fault.j0 k l0 (decide ((l0.length : Int) > 24)))) = some r := h; clear h; have HC2 := a_ H; clear H; go_enter Try.func54, Try.ntmps54
 go_upto_region 1 with (fail)
 go_cut [16] (fun v16 wc => ∃ (kq : Nat) (x16_1 : Bool), v16 = .bool x16_1 ∧ Aside0 (spec_l4Fault.j0 kq l0 x16_1 = some r) ∧ Aside0 (kq ≤ k) ∧ Aside0 (Below w.heap.size w wc))
 case first =>
  have H := HC2.out; clear HC2; by_cases cx0 : (l0.length : Int) < 1
  ·rw [if_pos cx0] at H; have cx0b0 : decide ((l0.length : Int) < 1) = true := decide_eq_true cx0; have cx0b1 : decide (l0.length < 1) = true := decide_eq_true y136_; clear cx0; (first | rw [cx0b0] | (simp only [i64_w, i32_w]; rw [cx0b0]) | skip); have H' := a_ H; clear H; go_wp2
   go_meet
   case rel => exact ⟨_, (true), y1_, H', ⟨y61_⟩, ⟨y0_⟩⟩
  ·rw [if_neg cx0] at H; have cx0b0 : decide ((l0.length : Int) < 1) = false := decide_eq_false cx0; have cx0b1 : decide (l0.length < 1) = false := decide_eq_false y136_; clear cx0; (first | rw [cx0b0] | (simp only [i64_w, i32_w]; rw [cx0b0]) | skip); have H' := a_ H; clear H; go_wp2
   go_meet
   case rel => exact ⟨_, (decide ((l0.length : Int) > 24)), y1_, H', ⟨y61_⟩, ⟨y0_⟩⟩
 case rest =>
  clear HC2; obtain ⟨kq, x16_1, rfl, HA, HJ1, HB⟩ := hcut; cases kq with
  | zero => exact absurd HA.out (by simp [spec_l4Fault.j0])
  | succ kj1 =>
   have H := HA.out; clear HA; simp only [spec_l4Fault.j0] at H; by_cases cx0 : x16_1 = true
   ·subst cx0; rw [if_pos rfl] at H; obtain rfl := Option.some.inj H; go_wp2
    go_ret
    exact ⟨y3_, y0_⟩
   ·replace cx0 := Bool.eq_false_iff.mpr cx0; subst cx0; rw [if_neg (show ¬ (false = true) by decide)] at H; have H' := a_ H; clear H; go_wp2
    go_loopg [3] kj1 (fun kq v3 w' => ∃ (x3_2 : Int), v3 = .int .i64 x3_2 ∧ Aside0 (spec_l4Fault.l0 kq l0 x3_2 = some r) ∧ Aside0 (kq ≤ kj1) ∧ Aside0 (Below w.heap.size w w'))
    case atStart => exact ⟨(0), y1_, H', ⟨Nat.le_refl _⟩, ⟨y0_⟩⟩
    case round =>
     clear H'; (try clear cx0); obtain ⟨x3_2, rfl, HA, HK2, HB⟩ := hrel; cases gk with
     | zero => exact absurd HA.out (by simp [spec_l4Fault.l0])
     | succ k2 =>
      have H := HA.out; clear HA; simp only [spec_l4Fault.l0] at H; by_cases cx1 : x3_2 < (l0.length : Int); rw [if_pos cx1] at H; have cx1b0 : decide (x3_2 < (l0.length : Int)) = true := decide_eq_true cx1; clear cx1; replace H := Option.bind_eq_some_iff.mp H; obtain ⟨tx2, Ay2, H⟩ := H; have Ax2 := a_ Ay2; clear Ay2; by_cases cx3 : tx2 = 0; rw [if_pos cx3] at H; have cx3b0 : (tx2 == 0) = true := beq_iff_eq.mpr cx3; have cx3b1 : (tx2 != 0) = false := bne_eq_false_iff_eq.mpr cx3; clear cx3; have H' := a_ H; clear H; have m1_0 := t_; rotate_left; rw [if_neg cx3] at H; have cx3b0 : (tx2 == 0) = false := beq_eq_false_iff_ne.mpr cx3; have cx3b1 : (tx2 != 0) = true := bne_iff_ne.mpr cx3; obtain rfl := Option.some.inj H; have m1_1 := t_; rotate_left; rw [if_neg cx1] at H; have cx1b0 : decide (x3_2 < (l0.length : Int)) = false := decide_eq_false cx1; clear cx1; replace H := Option.bind_eq_some_iff.mp H; obtain ⟨tx2, Ay2, H⟩ := H; have Ax2 := a_ Ay2; clear Ay2; by_cases cx3 : tx2 = 0; rw [if_pos cx3] at H; have cx3b0 : (tx2 == 0) = true := beq_iff_eq.mpr cx3; have cx3b1 : (tx2 != 0) = false := bne_eq_false_iff_eq.mpr cx3; clear cx3; have H' := a_ H; clear H; have m1_2 := t_; rotate_left; rw [if_neg cx3] at H; have cx3b0 : (tx2 == 0) = false := beq_eq_false_iff_ne.mpr cx3; have cx3b1 : (tx2 != 0) = true := bne_iff_ne.mpr cx3; obtain rfl := Option.some.inj H; have m1_3 := t_; rotate_left
      all_goals (
       go_wp2_with (first | (refine gc_ 91 25 Try.func91 #[.slice A0 l0.length c0, .int .i64 x3_2] ?_; (with_reducible refine (spec_l4One.calls k2 _ _ l0 x3_2 tx2 _ ?side1 ?side2 Ax2.out).mono ?_); (case side1 => repeat (first | exact (Kd.C_below HR0.out HB.out) | (with_reducible refine Kd.C_alloc ?_ _) | (with_reducible refine Kd.C_drewN ?_ _) | (with_reducible refine Kd.C_drew ?_))); (case side2 => exact HC0.out); rintro e w9431775 ⟨rfl, hb⟩; refine ⟨_, rfl, ?_⟩; have n0_ := a_ (below_step y0_ hb); clear HB; have HB := n0_; clear n0_; (try clear hb); (try clear hb9837084); (try clear hk); (try clear hi)) | (refine gc_ 92 30 Try.func92 #[.slice A0 l0.length c0] ?_; (with_reducible refine (spec_l4Shape.calls k2 _ _ l0 tx2 _ ?side1 ?side2 Ax2.out).mono ?_); (case side1 => repeat (first | exact (Kd.C_below HR0.out HB.out) | (with_reducible refine Kd.C_alloc ?_ _) | (with_reducible refine Kd.C_drewN ?_ _) | (with_reducible refine Kd.C_drew ?_))); (case side2 => exact HC0.out); rintro e w9939940 ⟨rfl, hb⟩; refine ⟨_, rfl, ?_⟩; have n0_ := a_ (below_step y0_ hb); clear HB; have HB := n0_; clear n0_; (try clear hb); (try clear hb9884228); (try clear hk); (try clear hi)))
       first
       | fail_if_success clear m1_0
       |(clear m1_0; go_roundg k2
         case measure => have := HJ1.out; have := HK2.out; omega
         case rel => exact ⟨(wrap64 (x3_2 + 1)), y1_, H', ⟨by have := HJ1.out; have := HK2.out; omega⟩, ⟨y0_⟩⟩)
       first
       | fail_if_success clear m1_1
       |(clear m1_1; go_ret
         exact ⟨y3_, y0_⟩)
       first
       | fail_if_success clear m1_2
       |(clear m1_2; go_loopg [6] k2 (fun kq v9234267 w' => ∃ (x6_3 : Int), v9234267 = .int .i64 x6_3 ∧ Aside0 (spec_l4Fault.l1 kq l0 x6_3 = some r) ∧ Aside0 (kq ≤ k2) ∧ Aside0 (Below w.heap.size w w'))
         case atStart => exact ⟨(0), y1_, H', ⟨Nat.le_refl _⟩, ⟨y0_⟩⟩
         case round =>
          clear H'; (try clear cx0); (try clear cx1); (try clear cx1b0); (try clear cx3); (try clear cx3b0); (try clear cx3b1); obtain ⟨x6_3, rfl, HA, HK9487065, HB⟩ := hrel; cases gk with
          | zero => exact absurd HA.out (by simp [spec_l4Fault.l1])
          | succ k3 =>
           have H := HA.out; clear HA; simp only [spec_l4Fault.l1] at H; by_cases cx4 : x6_3 < (l0.length : Int); rw [if_pos cx4] at H; have cx4b0 : decide (x6_3 < (l0.length : Int)) = true := decide_eq_true cx4; clear cx4; by_cases cx5 : 0 ≤ x6_3; rw [if_pos cx5] at H; have cx5b0 : decide (0 ≤ x6_3) = true := decide_eq_true cx5; clear cx5; replace H := Option.bind_eq_some_iff.mp H; obtain ⟨tx6, Ay6, H⟩ := H; have Ax6 := a_ Ay6; clear Ay6; by_cases cx7 : tx6 = 0; rw [if_pos cx7] at H; have cx7b0 : (tx6 == 0) = true := beq_iff_eq.mpr cx7; have cx7b1 : (tx6 != 0) = false := bne_eq_false_iff_eq.mpr cx7; clear cx7; replace H := Option.bind_eq_some_iff.mp H; obtain ⟨tx8, Ay8, H⟩ := H; have Ax8 := a_ Ay8; clear Ay8; by_cases cx9 : tx8 = 0; rw [if_pos cx9] at H; have cx9b0 : (tx8 == 0) = true := beq_iff_eq.mpr cx9; have cx9b1 : (tx8 != 0) = false := bne_eq_false_iff_eq.mpr cx9; clear cx9; have H' := a_ H; clear H; have m2_0 := t_; have m2_1 := t_; have m2_2 := t_; have m2_4 := t_; rotate_left; rw [if_neg cx9] at H; have cx9b0 : (tx8 == 0) = false := beq_eq_false_iff_ne.mpr cx9; have cx9b1 : (tx8 != 0) = true := bne_iff_ne.mpr cx9; obtain rfl := Option.some.inj H; have m2_0 := t_; have m2_1 := t_; have m2_2 := t_; have m2_5 := t_; rotate_left; rw [if_neg cx7] at H; have cx7b0 : (tx6 == 0) = false := beq_eq_false_iff_ne.mpr cx7; have cx7b1 : (tx6 != 0) = true := bne_iff_ne.mpr cx7; obtain rfl := Option.some.inj H; have m2_0 := t_; have m2_3 := t_; have m2_6 := t_; rotate_left
           ·rw [if_neg cx5] at H; exact absurd H y92_
           rw [if_neg cx4] at H; have cx4b0 : decide (x6_3 < (l0.length : Int)) = false := decide_eq_false cx4; clear cx4; obtain rfl := Option.some.inj H; have m2_7 := t_; rotate_left
           all_goals (
            first
            | fail_if_success clear m2_0
            |(clear m2_0; have p9922068 : 0 ≤ (x6_3 : Int) := of_decide_eq_true y2_; have q9922068 : x6_3 < (l0.length : Int) := of_decide_eq_true y2_; obtain ⟨ad9922068, A301_4, c301_4, A301_5, c301_5, e9922068, hx9922068_0, hx9922068_1, hx9922068_2, hx9922068_3, hx9922068_4, hx9922068_5, hl9922068_4, hi301_4, hl9922068_5, hi301_5⟩ := at_T78 HR0.out x6_3 p9922068 q9922068; cases e9922068; replace hx9922068_0 := cT_ HB.out hx9922068_0; replace hx9922068_1 := cT_ HB.out hx9922068_1; replace hx9922068_2 := cT_ HB.out hx9922068_2; replace hx9922068_3 := cT_ HB.out hx9922068_3; replace hx9922068_4 := cT_ HB.out hx9922068_4; replace hx9922068_5 := cT_ HB.out hx9922068_5; have HR301_4 := a_ hi301_4; have HC301_4 := a_ hl9922068_4; clear hi301_4 hl9922068_4; have HR301_5 := a_ hi301_5; have HC301_5 := a_ hl9922068_5; clear hi301_5 hl9922068_5; replace p9922068 := eq_true p9922068; replace q9922068 := eq_true q9922068
              go_wp2_with (first | (have mkq_ := m2_1; clear mkq_; refine gc_ 93 45 Try.func93 #[.slice A301_4 ((rd_T78 l0 x6_3).f4).length c301_4, .int .i64 2] ?_; (with_reducible refine (spec_l4Typed.calls k3 _ _ ((rd_T78 l0 x6_3).f4) 2 tx6 _ ?side1 ?side2 Ax6.out).mono ?_); (case side1 => repeat (first | exact (Kd.C_below HR301_4.out HB.out) | (with_reducible refine Kd.C_alloc ?_ _) | (with_reducible refine Kd.C_drewN ?_ _) | (with_reducible refine Kd.C_drew ?_))); (case side2 => exact HC301_4.out); rintro e w9104564 ⟨rfl, hb⟩; refine ⟨_, rfl, ?_⟩; have n0_ := a_ (below_step y0_ hb); clear HB; have HB := n0_; clear n0_; (try clear hb); (try clear hb9884228); (try clear hk); (try clear hi); have p9931035 : 0 ≤ (x6_3 : Int) := of_decide_eq_true y2_; have q9931035 : x6_3 < (l0.length : Int) := of_decide_eq_true y2_; obtain ⟨ad9931035, A303_4, c303_4, A303_5, c303_5, e9931035, hx9931035_0, hx9931035_1, hx9931035_2, hx9931035_3, hx9931035_4, hx9931035_5, hl9931035_4, hi303_4, hl9931035_5, hi303_5⟩ := at_T78 HR0.out x6_3 p9931035 q9931035; obtain rfl : ad9922068 = ad9931035 := (by injection e9931035); replace hx9931035_0 := cT_ HB.out hx9931035_0; replace hx9931035_1 := cT_ HB.out hx9931035_1; replace hx9931035_2 := cT_ HB.out hx9931035_2; replace hx9931035_3 := cT_ HB.out hx9931035_3; replace hx9931035_4 := cT_ HB.out hx9931035_4; replace hx9931035_5 := cT_ HB.out hx9931035_5; have HR303_4 := a_ hi303_4; have HC303_4 := a_ hl9931035_4; clear hi303_4 hl9931035_4; have HR303_5 := a_ hi303_5; have HC303_5 := a_ hl9931035_5; clear hi303_5 hl9931035_5; replace p9931035 := eq_true p9931035; replace q9931035 := eq_true q9931035) | (have mkq_ := m2_2; clear mkq_; refine gc_ 93 54 Try.func93 #[.slice A303_5 ((rd_T78 l0 x6_3).f5).length c303_5, .int .i64 1] ?_; (with_reducible refine (spec_l4Typed.calls k3 _ _ ((rd_T78 l0 x6_3).f5) 1 tx8 _ ?side1 ?side2 Ax8.out).mono ?_); (case side1 => repeat (first | exact (Kd.C_below HR303_5.out HB.out) | (with_reducible refine Kd.C_alloc ?_ _) | (with_reducible refine Kd.C_drewN ?_ _) | (with_reducible refine Kd.C_drew ?_))); (case side2 => exact HC303_5.out); rintro e w9483494 ⟨rfl, hb⟩; refine ⟨_, rfl, ?_⟩; have n0_ := a_ (below_step y0_ hb); clear HB; have HB := n0_; clear n0_; (try clear hb); (try clear hb9884228); (try clear hk); (try clear hi)) | (have mkq_ := m2_3; clear mkq_; refine gc_ 93 45 Try.func93 #[.slice A301_4 ((rd_T78 l0 x6_3).f4).length c301_4, .int .i64 2] ?_; (with_reducible refine (spec_l4Typed.calls k3 _ _ ((rd_T78 l0 x6_3).f4) 2 tx6 _ ?side1 ?side2 Ax6.out).mono ?_); (case side1 => repeat (first | exact (Kd.C_below HR301_4.out HB.out) | (with_reducible refine Kd.C_alloc ?_ _) | (with_reducible refine Kd.C_drewN ?_ _) | (with_reducible refine Kd.C_drew ?_))); (case side2 => exact HC301_4.out); rintro e w9104564 ⟨rfl, hb⟩; refine ⟨_, rfl, ?_⟩; have n0_ := a_ (below_step y0_ hb); clear HB; have HB := n0_; clear n0_; (try clear hb); (try clear hb9884228); (try clear hk); (try clear hi))))
            first
            | fail_if_success clear m2_4
            |(clear m2_4; go_roundg k3
              case measure => have := HJ1.out; have := HK2.out; have := HK9487065.out; omega
              case rel => exact ⟨(wrap64 (x6_3 + 1)), y1_, H', ⟨by have := HJ1.out; have := HK2.out; have := HK9487065.out; omega⟩, ⟨y0_⟩⟩)
            first
            | fail_if_success clear m2_5
            |(clear m2_5; go_ret
              exact ⟨y3_, y0_⟩)
            first
            | fail_if_success clear m2_6
            |(clear m2_6; go_ret
              exact ⟨y3_, y0_⟩)
            first
            | fail_if_success clear m2_7
            |(clear m2_7; go_wp2
              go_ret
              exact ⟨y3_, y0_⟩)))
       first
       | fail_if_success clear m1_3
       |(clear m1_3; go_ret
         exact ⟨y3_, y0_⟩))

/-! ### impl_inRange: function 56 -/
def impl_inRange.f (a0 : Int) (a1 : Int) (a2 : Int) : Option (Bool) := if a1 ≤ a0 then (some (decide (a0 ≤ a2))) else (some false)
set_option maxHeartbeats 8000000 in
set_option maxRecDepth 100000 in
theorem impl_inRange.calls (a0 : Int) (a1 : Int) (a2 : Int) (r : Bool) (w : World) (h : impl_inRange.f a0 a1 a2 = some r) :
    Calls Try.prog 56 #[.int .i64 a0, .int .i64 a1, .int .i64 a2] w fun e w' => e = .returned (.bool r) ∧ Drawn0 w w' := by
 have H : (if a1 ≤ a0 then (some (decide (a0 ≤ a2))) else (some false)) = some r := h; clear h; by_cases c4 : a1 ≤ a0
 ·rw [if_pos c4] at H; have c4b0 : decide (a1 ≤ a0) = true := decide_eq_true c4; clear c4; obtain rfl := Option.some.inj H; go_enter Try.func56, Try.ntmps56
  go_wp2
  go_ret
  exact ⟨y1_, y8_⟩
 ·rw [if_neg c4] at H; have c4b0 : decide (a1 ≤ a0) = false := decide_eq_false c4; clear c4; obtain rfl := Option.some.inj H; go_enter Try.func56, Try.ntmps56
  go_wp2
  go_ret
  exact ⟨y1_, y8_⟩

/-! ### impl_firstCode: function 59 -/
def impl_firstCode.l0 : Nat → List Int → Int → Int → Option (Int)
  | 0, _, _, _ => none
  | k + 1, x5, x6, x7 => if x7 < x6 then (if 0 ≤ x7 then (if x7 < (x5.length : Int) then (if (rd x5 x7) = 0 then (impl_firstCode.l0 k x5 x6 (wrap64 (x7 + 1))) else (some (rd x5 x7))) else (none)) else (none)) else (some 0)
def impl_firstCode.f (k : Nat) (l0 : List Int) : Option (Int) := impl_firstCode.l0 k l0 (l0.length : Int) 0
theorem impl_firstCode.mono_l : ∀ k, (∀ y0 y1 y2, LeO (impl_firstCode.l0 k y0 y1 y2) (impl_firstCode.l0 (k + 1) y0 y1 y2))
  | 0 => fun _ _ _ r h => by simp [impl_firstCode.l0] at h
  | k + 1 => by
    have ih0 := impl_firstCode.mono_l k
    · intro y0 y1 y2
      unfold impl_firstCode.l0
      repeat' (with_reducible first | exact ih0 _ _ _ | exact LeO.refl _ | exact LeO.none _ | refine LeO.ite ?_ ?_ | refine LeO.bind ?_ (fun _ => ?_))
theorem impl_firstCode.mono : ∀ a0 k, LeO (impl_firstCode.f k a0) (impl_firstCode.f (k + 1) a0) := by
  intro a0 k
  have ih0 := impl_firstCode.mono_l k
  unfold impl_firstCode.f
  repeat' (with_reducible first | exact ih0 _ _ _ | exact LeO.refl _ | exact LeO.none _ | refine LeO.ite ?_ ?_ | refine LeO.bind ?_ (fun _ => ?_))
set_option maxHeartbeats 8000000 in
set_option maxRecDepth 100000 in
theorem impl_firstCode.calls (k : Nat) (A0 : Option Addr) (c0 : Nat) (l0 : List Int) (r : Int) (w : World) (hr0 : Kd.C (Kd.int .i64) w A0 l0.length l0) (hc0 : l0.length ≤ c0) (h : impl_firstCode.f k l0 = some r) :
    Calls Try.prog 59 #[.slice A0 l0.length c0] w fun e w' => e = .returned (.int .i64 r) ∧ Drawn0 w w' := by
 have HR0 := a_ hr0; have HC0 := a_ hc0; clear hr0 hc0; have H : (impl_firstCode.l0 k l0 (l0.length : Int) 0) = some r := h; clear h; have H' := a_ H; clear H; go_enter Try.func59, Try.ntmps59
 go_wp2
 go_loopg [7] k (fun kq v7 w' => ∃ (x7_1 : Int), v7 = .int .i64 x7_1 ∧ Aside0 (impl_firstCode.l0 kq l0 (l0.length : Int) x7_1 = some r) ∧ Aside0 (kq ≤ k) ∧ Drawn0 w w')
 case atStart => exact ⟨(0), y1_, H', ⟨Nat.le_refl _⟩, y8_⟩
 case round =>
  clear H'; obtain ⟨x7_1, rfl, HA, HK1, ⟨m1, rfl⟩⟩ := hrel; cases gk with
  | zero => exact absurd HA.out (by simp [impl_firstCode.l0])
  | succ k1 =>
   have H := HA.out; clear HA; simp only [impl_firstCode.l0] at H; by_cases cx0 : x7_1 < (l0.length : Int); rw [if_pos cx0] at H; have cx0b0 : decide (x7_1 < (l0.length : Int)) = true := decide_eq_true cx0; clear cx0; by_cases cx1 : 0 ≤ x7_1; rw [if_pos cx1] at H; have cx1b0 : decide (0 ≤ x7_1) = true := decide_eq_true cx1; clear cx1; by_cases cx2 : x7_1 < (l0.length : Int); rw [if_pos cx2] at H; have cx2b0 : decide (x7_1 < (l0.length : Int)) = true := decide_eq_true cx2; clear cx2; by_cases cx3 : (rd l0 x7_1) = 0; rw [if_pos cx3] at H; have cx3b0 : ((rd l0 x7_1) == 0) = true := beq_iff_eq.mpr cx3; have cx3b1 : ((rd l0 x7_1) != 0) = false := bne_eq_false_iff_eq.mpr cx3; clear cx3; have H' := a_ H; clear H; have m0_0 := t_; have m0_1 := t_; rotate_left; rw [if_neg cx3] at H; have cx3b0 : ((rd l0 x7_1) == 0) = false := beq_eq_false_iff_ne.mpr cx3; have cx3b1 : ((rd l0 x7_1) != 0) = true := bne_iff_ne.mpr cx3; obtain rfl := Option.some.inj H; have m0_0 := t_; have m0_2 := t_; rotate_left
   ·rw [if_neg cx2] at H; exact absurd H y92_
   ·rw [if_neg cx1] at H; exact absurd H y92_
   rw [if_neg cx0] at H; have cx0b0 : decide (x7_1 < (l0.length : Int)) = false := decide_eq_false cx0; clear cx0; obtain rfl := Option.some.inj H; have m0_3 := t_; rotate_left
   all_goals (
    first
    | fail_if_success clear m0_0
    |(clear m0_0; have p9922068 : 0 ≤ (x7_1 : Int) := of_decide_eq_true y2_; have q9922068 : x7_1 < (l0.length : Int) := of_decide_eq_true y2_; obtain ⟨ad9922068, e9922068, hx9922068_0⟩ := Kd.at_int HR0.out x7_1 p9922068 q9922068; cases e9922068; replace p9922068 := eq_true p9922068; replace q9922068 := eq_true q9922068; go_wp2)
    first
    | fail_if_success clear m0_1
    |(clear m0_1; go_roundg k1
      case measure => have := HK1.out; omega
      case rel => exact ⟨(wrap64 (x7_1 + 1)), y1_, H', ⟨y85_⟩, y8_⟩)
    first
    | fail_if_success clear m0_2
    |(clear m0_2; go_ret
      exact ⟨y1_, y8_⟩)
    first
    | fail_if_success clear m0_3
    |(clear m0_3; go_wp2
      go_ret
      exact ⟨y1_, y8_⟩))

/-! ### impl_codeIf: function 76 -/
def impl_codeIf.f (a0 : Bool) (a1 : Int) : Option (Int) := if a0 = true then (some a1) else (some 0)
set_option maxHeartbeats 8000000 in
set_option maxRecDepth 100000 in
theorem impl_codeIf.calls (a0 : Bool) (a1 : Int) (r : Int) (w : World) (h : impl_codeIf.f a0 a1 = some r) :
    Calls Try.prog 76 #[.bool a0, .int .i64 a1] w fun e w' => e = .returned (.int .i64 r) ∧ Drawn0 w w' := by
 have H : (if a0 = true then (some a1) else (some 0)) = some r := h; clear h; by_cases c3 : a0 = true
 ·subst c3; rw [if_pos rfl] at H; obtain rfl := Option.some.inj H; go_enter Try.func76, Try.ntmps76
  go_wp2
  go_ret
  exact ⟨y1_, y8_⟩
 ·replace c3 := Bool.eq_false_iff.mpr c3; subst c3; rw [if_neg (show ¬ (false = true) by decide)] at H; obtain rfl := Option.some.inj H; go_enter Try.func76, Try.ntmps76
  go_wp2
  go_ret
  exact ⟨y1_, y8_⟩

/-! ### impl_argBounds: function 95 -/
def impl_argBounds.j0 : Nat → Int → Bool → Bool → Option (Int × Int)
  | 0, _, _, _ => none
  | k + 1, x4, x5, x7 => if x7 = true then (some (1, 99)) else (if x4 = 7 then (some (0, 3)) else (some (0, 0)))
def impl_argBounds.f (k : Nat) (a0 : Int) : Option (Int × Int) := if a0 = 5 then (some (0, 9)) else (if a0 = 6 then (impl_argBounds.j0 k a0 (a0 == 5) (a0 == 6)) else (impl_argBounds.j0 k a0 (a0 == 5) (a0 == 8)))
theorem impl_argBounds.mono_l : ∀ k, (∀ y0 y1 y2, LeO (impl_argBounds.j0 k y0 y1 y2) (impl_argBounds.j0 (k + 1) y0 y1 y2))
  | 0 => fun _ _ _ r h => by simp [impl_argBounds.j0] at h
  | k + 1 => by
    have ih0 := impl_argBounds.mono_l k
    · intro y0 y1 y2
      unfold impl_argBounds.j0
      repeat' (with_reducible first | exact ih0 _ _ _ | exact LeO.refl _ | exact LeO.none _ | refine LeO.ite ?_ ?_ | refine LeO.bind ?_ (fun _ => ?_))
theorem impl_argBounds.mono : ∀ a0 k, LeO (impl_argBounds.f k a0) (impl_argBounds.f (k + 1) a0) := by
  intro a0 k
  have ih0 := impl_argBounds.mono_l k
  unfold impl_argBounds.f
  repeat' (with_reducible first | exact ih0 _ _ _ | exact LeO.refl _ | exact LeO.none _ | refine LeO.ite ?_ ?_ | refine LeO.bind ?_ (fun _ => ?_))
set_option maxHeartbeats 8000000 in
set_option maxRecDepth 100000 in
theorem impl_argBounds.calls (k : Nat) (a0 : Int) (r1 : Int) (r2 : Int) (w : World) (h : impl_argBounds.f k a0 = some (r1, r2)) :
    Calls Try.prog 95 #[.int .i64 a0] w fun e w' => e = .returned (.tuple #[.int .i64 r1, .int .i64 r2]) ∧ Drawn0 w w' := by
 have H : (if a0 = 5 then (some (0, 9)) else (if a0 = 6 then (impl_argBounds.j0 k a0 (a0 == 5) (a0 == 6)) else (impl_argBounds.j0 k a0 (a0 == 5) (a0 == 8)))) = some (r1, r2) := h; clear h; by_cases cx0 : a0 = 5
 ·rw [if_pos cx0] at H; have cx0b0 : (a0 == 5) = true := beq_iff_eq.mpr cx0; have cx0b1 : (a0 != 5) = false := bne_eq_false_iff_eq.mpr cx0; clear cx0; simp only [Option.some.injEq, Prod.mk.injEq] at H; obtain ⟨rfl, rfl⟩ := H; go_enter Try.func95, Try.ntmps95
  go_wp2
  go_ret2
  exact ⟨y1_, y8_⟩
 ·rw [if_neg cx0] at H; have cx0b0 : (a0 == 5) = false := beq_eq_false_iff_ne.mpr cx0; have cx0b1 : (a0 != 5) = true := bne_iff_ne.mpr cx0; have HC3 := a_ H; clear H; go_enter Try.func95, Try.ntmps95
  go_upto_if 7 with (fail)
  go_cut [5, 7] (fun v5 v7 wc => ∃ (kq : Nat) (x5_2 : Bool) (x7_2 : Bool), v5 = .bool x5_2 ∧ v7 = .bool x7_2 ∧ Aside0 (impl_argBounds.j0 kq a0 x5_2 x7_2 = some (r1, r2)) ∧ Aside0 (kq ≤ k) ∧ Drawn0 w wc)
  case first =>
   have H := HC3.out; clear HC3; by_cases cx1 : a0 = 6
   ·rw [if_pos cx1] at H; have cx1b0 : (a0 == 6) = true := beq_iff_eq.mpr cx1; have cx1b1 : (a0 != 6) = false := bne_eq_false_iff_eq.mpr cx1; clear cx1; (first | rw [cx1b0] | (simp only [i64_w, i32_w]; rw [cx1b0]) | skip); have H' := a_ H; clear H; go_wp2
    go_meet
    case rel => exact ⟨_, ((a0 == 5)), ((a0 == 6)), y1_, y1_, H', ⟨y61_⟩, y8_⟩
   ·rw [if_neg cx1] at H; have cx1b0 : (a0 == 6) = false := beq_eq_false_iff_ne.mpr cx1; have cx1b1 : (a0 != 6) = true := bne_iff_ne.mpr cx1; (first | rw [cx1b0] | (simp only [i64_w, i32_w]; rw [cx1b0]) | skip); have H' := a_ H; clear H; go_wp2
    go_meet
    case rel => exact ⟨_, ((a0 == 5)), ((a0 == 8)), y1_, y1_, H', ⟨y61_⟩, y8_⟩
  case rest =>
   clear HC3; (try clear cx0); (try clear cx0b0); (try clear cx0b1); obtain ⟨kq, x5_2, x7_2, rfl, rfl, HA, HJ2, ⟨mc2, rfl⟩⟩ := hcut; cases kq with
   | zero => exact absurd HA.out (by simp [impl_argBounds.j0])
   | succ kj2 =>
    have H := HA.out; clear HA; simp only [impl_argBounds.j0] at H; by_cases cx1 : x7_2 = true; subst cx1; rw [if_pos rfl] at H; simp only [Option.some.injEq, Prod.mk.injEq] at H; obtain ⟨rfl, rfl⟩ := H; rotate_left; replace cx1 := Bool.eq_false_iff.mpr cx1; subst cx1; rw [if_neg (show ¬ (false = true) by decide)] at H; by_cases cx2 : a0 = 7; rw [if_pos cx2] at H; have cx2b0 : (a0 == 7) = true := beq_iff_eq.mpr cx2; have cx2b1 : (a0 != 7) = false := bne_eq_false_iff_eq.mpr cx2; clear cx2; simp only [Option.some.injEq, Prod.mk.injEq] at H; obtain ⟨rfl, rfl⟩ := H; rotate_left; rw [if_neg cx2] at H; have cx2b0 : (a0 == 7) = false := beq_eq_false_iff_ne.mpr cx2; have cx2b1 : (a0 != 7) = true := bne_iff_ne.mpr cx2; simp only [Option.some.injEq, Prod.mk.injEq] at H; obtain ⟨rfl, rfl⟩ := H; rotate_left
    all_goals (
     go_wp2
     go_ret2
     exact ⟨y1_, y8_⟩)

end Go.Proofs.Ytcpcenhpmcfmjaa.L
