-- Written by a program of this session's own (xp.py) for this seat.
import Derived.Test.YtcpcenhpmcfmjaaLZ
import Derived.Test.YtcpcenhpmcfmjaaL0
import Derived.Test.YtcpcenhpmcfmjaaL3
namespace Go.Proofs.Ytcpcenhpmcfmjaa.L
open Go.RowKit Go.Proofs.YtcpcenhpmcfmjaaW.PrintWords Go.Proofs.YtcpcenhpmcfmjaaW.PrintLast Go.Proofs.YtcpcenhpmcfmjaaW.PrintMore
attribute [local go_sem] Instr.field asAgg
attribute [local go_sem] max2_int min2_int max_two min_two max_three min_three max_four min_four   -- for this text's walks alone
set_option linter.unusedVariables false
set_option linter.unusedSimpArgs false

/-! ### spec_l4Bare: function 114 -/
def spec_l4Bare.f (a0 : S78) : Option (Bool) := (spec_l1In.f ((rd_T78 [a0] 0).f0) 5 8).bind fun t168 => (if ((rd_T78 [a0] 0).f0) = 2 then (if t168 = true then (if ((rd_T78 [a0] 0).f0) = 7 then (some true) else (some ((((rd_T78 [a0] 0).f5).length : Int) == 0))) else (if ((rd_T78 [a0] 0).f3) = 0 then (if ((rd_T78 [a0] 0).f0) = 7 then (some true) else (some ((((rd_T78 [a0] 0).f5).length : Int) == 0))) else (some false))) else (if ((rd_T78 [a0] 0).f2).toList = ([] : List UInt8) then (if t168 = true then (if ((rd_T78 [a0] 0).f0) = 7 then (some true) else (some ((((rd_T78 [a0] 0).f5).length : Int) == 0))) else (if ((rd_T78 [a0] 0).f3) = 0 then (if ((rd_T78 [a0] 0).f0) = 7 then (some true) else (some ((((rd_T78 [a0] 0).f5).length : Int) == 0))) else (some false))) else (some false)))
set_option maxHeartbeats 8000000 in
set_option maxRecDepth 100000 in
theorem spec_l4Bare.calls (adp0 : Addr) (a0 : S78) (r : Bool) (w : World) (hr0 : Kd.C k78 w (some adp0) 1 [a0]) (h : spec_l4Bare.f a0 = some r) :
    Calls Try.prog 114 #[.pointer (some adp0)] w fun e w' => e = .returned (.bool r) ∧ Drawn0 w w' := by
 have HR0 := a_ hr0; clear hr0; have H : ((spec_l1In.f ((rd_T78 [a0] 0).f0) 5 8).bind fun t168 => (if ((rd_T78 [a0] 0).f0) = 2 then (if t168 = true then (if ((rd_T78 [a0] 0).f0) = 7 then (some true) else (some ((((rd_T78 [a0] 0).f5).length : Int) == 0))) else (if ((rd_T78 [a0] 0).f3) = 0 then (if ((rd_T78 [a0] 0).f0) = 7 then (some true) else (some ((((rd_T78 [a0] 0).f5).length : Int) == 0))) else (some false))) else (if ((rd_T78 [a0] 0).f2).toList = ([] : List UInt8) then (if t168 = true then (if ((rd_T78 [a0] 0).f0) = 7 then (some true) else (some ((((rd_T78 [a0] 0).f5).length : Int) == 0))) else (if ((rd_T78 [a0] 0).f3) = 0 then (if ((rd_T78 [a0] 0).f0) = 7 then (some true) else (some ((((rd_T78 [a0] 0).f5).length : Int) == 0))) else (some false))) else (some false)))) = some r := h; clear h; replace H := Option.bind_eq_some_iff.mp H; obtain ⟨tx0, Ay0, H⟩ := H; have Ax0 := a_ Ay0; clear Ay0; by_cases cx1 : ((rd_T78 [a0] 0).f0) = 2; rw [if_pos cx1] at H; have cx1b0 : (((rd_T78 [a0] 0).f0) == 2) = true := beq_iff_eq.mpr cx1; have cx1b1 : (((rd_T78 [a0] 0).f0) != 2) = false := bne_eq_false_iff_eq.mpr cx1; clear cx1; by_cases cx2 : tx0 = true; subst cx2; rw [if_pos rfl] at H; by_cases cx3 : ((rd_T78 [a0] 0).f0) = 7; rw [if_pos cx3] at H; have cx3b0 : (((rd_T78 [a0] 0).f0) == 7) = true := beq_iff_eq.mpr cx3; have cx3b1 : (((rd_T78 [a0] 0).f0) != 7) = false := bne_eq_false_iff_eq.mpr cx3; clear cx3; obtain rfl := Option.some.inj H; have m0_0 := t_; rotate_left; rw [if_neg cx3] at H; have cx3b0 : (((rd_T78 [a0] 0).f0) == 7) = false := beq_eq_false_iff_ne.mpr cx3; have cx3b1 : (((rd_T78 [a0] 0).f0) != 7) = true := bne_iff_ne.mpr cx3; obtain rfl := Option.some.inj H; have m0_0 := t_; rotate_left; replace cx2 := Bool.eq_false_iff.mpr cx2; subst cx2; rw [if_neg (show ¬ (false = true) by decide)] at H; by_cases cx3 : ((rd_T78 [a0] 0).f3) = 0; rw [if_pos cx3] at H; have cx3b0 : (((rd_T78 [a0] 0).f3) == 0) = true := beq_iff_eq.mpr cx3; have cx3b1 : (((rd_T78 [a0] 0).f3) != 0) = false := bne_eq_false_iff_eq.mpr cx3; clear cx3; by_cases cx4 : ((rd_T78 [a0] 0).f0) = 7; rw [if_pos cx4] at H; have cx4b0 : (((rd_T78 [a0] 0).f0) == 7) = true := beq_iff_eq.mpr cx4; have cx4b1 : (((rd_T78 [a0] 0).f0) != 7) = false := bne_eq_false_iff_eq.mpr cx4; clear cx4; obtain rfl := Option.some.inj H; have m0_0 := t_; rotate_left; rw [if_neg cx4] at H; have cx4b0 : (((rd_T78 [a0] 0).f0) == 7) = false := beq_eq_false_iff_ne.mpr cx4; have cx4b1 : (((rd_T78 [a0] 0).f0) != 7) = true := bne_iff_ne.mpr cx4; obtain rfl := Option.some.inj H; have m0_0 := t_; rotate_left; rw [if_neg cx3] at H; have cx3b0 : (((rd_T78 [a0] 0).f3) == 0) = false := beq_eq_false_iff_ne.mpr cx3; have cx3b1 : (((rd_T78 [a0] 0).f3) != 0) = true := bne_iff_ne.mpr cx3; obtain rfl := Option.some.inj H; have m0_0 := t_; rotate_left; rw [if_neg cx1] at H; have cx1b0 : (((rd_T78 [a0] 0).f0) == 2) = false := beq_eq_false_iff_ne.mpr cx1
 have cx1b1 : (((rd_T78 [a0] 0).f0) != 2) = true := bne_iff_ne.mpr cx1; by_cases cx2 : ((rd_T78 [a0] 0).f2).toList = ([] : List UInt8); rw [if_pos cx2] at H; have cx2b0 : (((rd_T78 [a0] 0).f2).toList == ([] : List UInt8)) = true := beq_iff_eq.mpr cx2; have cx2b1 : (((rd_T78 [a0] 0).f2).toList != ([] : List UInt8)) = false := bne_eq_false_iff_eq.mpr cx2; clear cx2; by_cases cx3 : tx0 = true; subst cx3; rw [if_pos rfl] at H; by_cases cx4 : ((rd_T78 [a0] 0).f0) = 7; rw [if_pos cx4] at H; have cx4b0 : (((rd_T78 [a0] 0).f0) == 7) = true := beq_iff_eq.mpr cx4; have cx4b1 : (((rd_T78 [a0] 0).f0) != 7) = false := bne_eq_false_iff_eq.mpr cx4; clear cx4; obtain rfl := Option.some.inj H; have m0_0 := t_; rotate_left; rw [if_neg cx4] at H; have cx4b0 : (((rd_T78 [a0] 0).f0) == 7) = false := beq_eq_false_iff_ne.mpr cx4; have cx4b1 : (((rd_T78 [a0] 0).f0) != 7) = true := bne_iff_ne.mpr cx4; obtain rfl := Option.some.inj H; have m0_0 := t_; rotate_left; replace cx3 := Bool.eq_false_iff.mpr cx3; subst cx3; rw [if_neg (show ¬ (false = true) by decide)] at H; by_cases cx4 : ((rd_T78 [a0] 0).f3) = 0; rw [if_pos cx4] at H; have cx4b0 : (((rd_T78 [a0] 0).f3) == 0) = true := beq_iff_eq.mpr cx4; have cx4b1 : (((rd_T78 [a0] 0).f3) != 0) = false := bne_eq_false_iff_eq.mpr cx4; clear cx4; by_cases cx5 : ((rd_T78 [a0] 0).f0) = 7; rw [if_pos cx5] at H; have cx5b0 : (((rd_T78 [a0] 0).f0) == 7) = true := beq_iff_eq.mpr cx5; have cx5b1 : (((rd_T78 [a0] 0).f0) != 7) = false := bne_eq_false_iff_eq.mpr cx5; clear cx5; obtain rfl := Option.some.inj H; have m0_0 := t_; rotate_left; rw [if_neg cx5] at H; have cx5b0 : (((rd_T78 [a0] 0).f0) == 7) = false := beq_eq_false_iff_ne.mpr cx5; have cx5b1 : (((rd_T78 [a0] 0).f0) != 7) = true := bne_iff_ne.mpr cx5; obtain rfl := Option.some.inj H; have m0_0 := t_; rotate_left; rw [if_neg cx4] at H; have cx4b0 : (((rd_T78 [a0] 0).f3) == 0) = false := beq_eq_false_iff_ne.mpr cx4; have cx4b1 : (((rd_T78 [a0] 0).f3) != 0) = true := bne_iff_ne.mpr cx4; obtain rfl := Option.some.inj H; have m0_0 := t_; rotate_left; rw [if_neg cx2] at H; have cx2b0 : (((rd_T78 [a0] 0).f2).toList == ([] : List UInt8)) = false := beq_eq_false_iff_ne.mpr cx2; have cx2b1 : (((rd_T78 [a0] 0).f2).toList != ([] : List UInt8)) = true := bne_iff_ne.mpr cx2; obtain rfl := Option.some.inj H; have m0_1 := t_; rotate_left
 all_goals (
  have p9922068 : 0 ≤ (0 : Int) := y136_; have q9922068 : 0 < ([a0].length : Int) := y92_; obtain ⟨ad9922068, A167_4, c167_4, A167_5, c167_5, e9922068, hx9922068_0, hx9922068_1, hx9922068_2, hx9922068_3, hx9922068_4, hx9922068_5, hl9922068_4, hi167_4, hl9922068_5, hi167_5⟩ := at_T78 HR0.out 0 p9922068 q9922068; obtain rfl : adp0 = ad9922068 := (by injection e9922068); have qi167 : (0 < [a0].length) = True := eq_true y136_; (try rw [show ((0 : Int)).toNat = 0 from rfl] at hx9922068_0); (try rw [show 0 * 6 = 0 from rfl] at hx9922068_0); (try rw [Addr.add_zero'] at hx9922068_0); (try rw [show ((0 : Int)).toNat = 0 from rfl] at hx9922068_1); (try rw [show 0 * 6 = 0 from rfl] at hx9922068_1); (try rw [Addr.add_zero'] at hx9922068_1); (try rw [show ((0 : Int)).toNat = 0 from rfl] at hx9922068_2); (try rw [show 0 * 6 = 0 from rfl] at hx9922068_2); (try rw [Addr.add_zero'] at hx9922068_2); (try rw [show ((0 : Int)).toNat = 0 from rfl] at hx9922068_3); (try rw [show 0 * 6 = 0 from rfl] at hx9922068_3); (try rw [Addr.add_zero'] at hx9922068_3); (try rw [show ((0 : Int)).toNat = 0 from rfl] at hx9922068_4); (try rw [show 0 * 6 = 0 from rfl] at hx9922068_4); (try rw [Addr.add_zero'] at hx9922068_4); (try rw [show ((0 : Int)).toNat = 0 from rfl] at hx9922068_5); (try rw [show 0 * 6 = 0 from rfl] at hx9922068_5); (try rw [Addr.add_zero'] at hx9922068_5); have HR167_4 := a_ hi167_4; have HC167_4 := a_ hl9922068_4; clear hi167_4 hl9922068_4; have HR167_5 := a_ hi167_5; have HC167_5 := a_ hl9922068_5; clear hi167_5 hl9922068_5; replace p9922068 := eq_true p9922068; replace q9922068 := eq_true q9922068; go_enter Try.func114, Try.ntmps114
  go_wp2_with (first | (have mkq_ := m0_0; clear mkq_; refine gc_ 74 8 Try.func74 #[.int .i64 ((rd_T78 [a0] 0).f0), .int .i64 5, .int .i64 8] ?_; (with_reducible refine (spec_l1In.calls ((rd_T78 [a0] 0).f0) 5 8 _ _ Ax0.out).mono ?_); rintro e w' ⟨rfl, ⟨nd, rfl⟩⟩; refine ⟨_, rfl, ?_⟩) | (have mkq_ := m0_1; clear mkq_; refine gc_ 74 8 Try.func74 #[.int .i64 ((rd_T78 [a0] 0).f0), .int .i64 5, .int .i64 8] ?_; (with_reducible refine (spec_l1In.calls ((rd_T78 [a0] 0).f0) 5 8 tx0 _ Ax0.out).mono ?_); rintro e w' ⟨rfl, ⟨nd, rfl⟩⟩; refine ⟨_, rfl, ?_⟩))
  go_ret
  exact ⟨y1_, y8_⟩)

/-! ### spec_l4Line: function 115 -/
def spec_l4Line.l0 : Nat → List (S78) → Int → Int → Option (Bool)
  | 0, _, _, _ => none
  | k + 1, x0, x1, x5 => if x5 ≥ 0 then (if 0 ≤ x1 then (if x1 < (x0.length : Int) then (if x5 = ((rd_T78 x0 x1).f1) then (some true) else (if 0 ≤ x5 then (if x5 < (x0.length : Int) then (spec_l4Line.l0 k x0 x1 ((rd_T78 x0 x5).f1)) else (none)) else (none))) else (none)) else (none)) else (some false)
def spec_l4Line.f (k : Nat) (l0 : List (S78)) (a1 : Int) : Option (Bool) := spec_l4Line.l0 k l0 a1 (wrap64 (a1 - 1))
theorem spec_l4Line.mono_l : ∀ k, (∀ y0 y1 y2, LeO (spec_l4Line.l0 k y0 y1 y2) (spec_l4Line.l0 (k + 1) y0 y1 y2))
  | 0 => fun _ _ _ r h => by simp [spec_l4Line.l0] at h
  | k + 1 => by
    have ih0 := spec_l4Line.mono_l k
    · intro y0 y1 y2
      unfold spec_l4Line.l0
      repeat' (with_reducible first | exact ih0 _ _ _ | exact LeO.refl _ | exact LeO.none _ | refine LeO.ite ?_ ?_ | refine LeO.bind ?_ (fun _ => ?_))
theorem spec_l4Line.mono : ∀ a0 a1 k, LeO (spec_l4Line.f k a0 a1) (spec_l4Line.f (k + 1) a0 a1) := by
  intro a0 a1 k
  have ih0 := spec_l4Line.mono_l k
  unfold spec_l4Line.f
  repeat' (with_reducible first | exact ih0 _ _ _ | exact LeO.refl _ | exact LeO.none _ | refine LeO.ite ?_ ?_ | refine LeO.bind ?_ (fun _ => ?_))
set_option maxHeartbeats 8000000 in
set_option maxRecDepth 100000 in
theorem spec_l4Line.calls (k : Nat) (A0 : Option Addr) (c0 : Nat) (l0 : List (S78)) (a1 : Int) (r : Bool) (w : World) (hr0 : Kd.C k78 w A0 l0.length l0) (hc0 : l0.length ≤ c0) (h : spec_l4Line.f k l0 a1 = some r) :
    Calls Try.prog 115 #[.slice A0 l0.length c0, .int .i64 a1] w fun e w' => e = .returned (.bool r) ∧ Drawn0 w w' := by
 have HR0 := a_ hr0; have HC0 := a_ hc0; clear hr0 hc0; have H : (spec_l4Line.l0 k l0 a1 (wrap64 (a1 - 1))) = some r := h; clear h; have H' := a_ H; clear H; go_enter Try.func115, Try.ntmps115
 go_wp2
 go_loopg [5] k (fun kq v5 w' => ∃ (x5_1 : Int), v5 = .int .i64 x5_1 ∧ Aside0 (spec_l4Line.l0 kq l0 a1 x5_1 = some r) ∧ Aside0 (kq ≤ k) ∧ Drawn0 w w')
 case atStart => exact ⟨(wrap64 (a1 - 1)), y1_, H', ⟨Nat.le_refl _⟩, y8_⟩
 case round =>
  clear H'; obtain ⟨x5_1, rfl, HA, HK1, ⟨m1, rfl⟩⟩ := hrel; cases gk with
  | zero => exact absurd HA.out (by simp [spec_l4Line.l0])
  | succ k1 =>
   have H := HA.out; clear HA; simp only [spec_l4Line.l0] at H; by_cases cx0 : x5_1 ≥ 0; rw [if_pos cx0] at H; have cx0b0 : decide (0 ≤ x5_1) = true := decide_eq_true cx0; clear cx0; by_cases cx1 : 0 ≤ a1; rw [if_pos cx1] at H; have cx1b0 : decide (0 ≤ a1) = true := decide_eq_true cx1; clear cx1; by_cases cx2 : a1 < (l0.length : Int); rw [if_pos cx2] at H; have cx2b0 : decide (a1 < (l0.length : Int)) = true := decide_eq_true cx2; clear cx2; by_cases cx3 : x5_1 = ((rd_T78 l0 a1).f1); rw [if_pos cx3] at H; have cx3b0 : (x5_1 == ((rd_T78 l0 a1).f1)) = true := beq_iff_eq.mpr cx3; have cx3b1 : (x5_1 != ((rd_T78 l0 a1).f1)) = false := bne_eq_false_iff_eq.mpr cx3; clear cx3; obtain rfl := Option.some.inj H; have m0_0 := t_; have m0_1 := t_; rotate_left; rw [if_neg cx3] at H; have cx3b0 : (x5_1 == ((rd_T78 l0 a1).f1)) = false := beq_eq_false_iff_ne.mpr cx3; have cx3b1 : (x5_1 != ((rd_T78 l0 a1).f1)) = true := bne_iff_ne.mpr cx3; by_cases cx4 : 0 ≤ x5_1; rw [if_pos cx4] at H; have cx4b0 : decide (0 ≤ x5_1) = true := decide_eq_true cx4; clear cx4; by_cases cx5 : x5_1 < (l0.length : Int); rw [if_pos cx5] at H; have cx5b0 : decide (x5_1 < (l0.length : Int)) = true := decide_eq_true cx5; clear cx5; have H' := a_ H; clear H; have m0_0 := t_; have m0_2 := t_; rotate_left
   ·rw [if_neg cx5] at H; exact absurd H y92_
   ·rw [if_neg cx4] at H; exact absurd H y92_
   ·rw [if_neg cx2] at H; exact absurd H y92_
   ·rw [if_neg cx1] at H; exact absurd H y92_
   rw [if_neg cx0] at H; have cx0b0 : decide (0 ≤ x5_1) = false := decide_eq_false cx0; clear cx0; obtain rfl := Option.some.inj H; have m0_3 := t_; rotate_left
   all_goals (
    first
    | fail_if_success clear m0_0
    |(clear m0_0; have p9922068 : 0 ≤ (a1 : Int) := of_decide_eq_true y2_; have q9922068 : a1 < (l0.length : Int) := of_decide_eq_true y2_; obtain ⟨ad9922068, A169_4, c169_4, A169_5, c169_5, e9922068, hx9922068_0, hx9922068_1, hx9922068_2, hx9922068_3, hx9922068_4, hx9922068_5, hl9922068_4, hi169_4, hl9922068_5, hi169_5⟩ := at_T78 HR0.out a1 p9922068 q9922068; cases e9922068; have HR169_4 := a_ hi169_4; have HC169_4 := a_ hl9922068_4; clear hi169_4 hl9922068_4; have HR169_5 := a_ hi169_5; have HC169_5 := a_ hl9922068_5; clear hi169_5 hl9922068_5; replace p9922068 := eq_true p9922068; replace q9922068 := eq_true q9922068)
    first
    | fail_if_success clear m0_1
    |(clear m0_1; go_wp2
      go_ret
      exact ⟨y1_, y8_⟩)
    first
    | fail_if_success clear m0_2
    |(clear m0_2; have p9548309 : 0 ≤ (x5_1 : Int) := of_decide_eq_true y2_; have q9548309 : x5_1 < (l0.length : Int) := of_decide_eq_true y2_; obtain ⟨ad9548309, A170_4, c170_4, A170_5, c170_5, e9548309, hx9548309_0, hx9548309_1, hx9548309_2, hx9548309_3, hx9548309_4, hx9548309_5, hl9548309_4, hi170_4, hl9548309_5, hi170_5⟩ := at_T78 HR0.out x5_1 p9548309 q9548309; obtain rfl : ad9922068 = ad9548309 := (by injection e9548309); have HR170_4 := a_ hi170_4; have HC170_4 := a_ hl9548309_4; clear hi170_4 hl9548309_4; have HR170_5 := a_ hi170_5; have HC170_5 := a_ hl9548309_5; clear hi170_5 hl9548309_5; replace p9548309 := eq_true p9548309; replace q9548309 := eq_true q9548309; go_wp2
      go_roundg k1
      case measure => have := HK1.out; omega
      case rel => exact ⟨((rd_T78 l0 x5_1).f1), y1_, H', ⟨y85_⟩, y8_⟩)
    first
    | fail_if_success clear m0_3
    |(clear m0_3; go_wp2
      go_ret
      exact ⟨y1_, y8_⟩))

/-! ### spec_l4Arg: function 116 -/
def spec_l4Arg.j0 : Nat → S78 → Int → Bool → Bool → Option (Bool)
  | 0, _, _, _, _ => none
  | k + 1, x0, x6, x7, x14 => if x14 = true then ((spec_l1In.f ((rd_T78 [x0] 0).f3) 1 99).bind fun t174 => (some t174)) else (if x6 = 7 then ((spec_l1In.f ((rd_T78 [x0] 0).f3) 0 3).bind fun t176 => (some t176)) else (some true))
def spec_l4Arg.f (k : Nat) (a0 : S78) : Option (Bool) := if ((rd_T78 [a0] 0).f0) = 5 then ((spec_l1In.f ((rd_T78 [a0] 0).f3) 0 9).bind fun t172 => (some t172)) else (if ((rd_T78 [a0] 0).f0) = 6 then (spec_l4Arg.j0 k a0 ((rd_T78 [a0] 0).f0) (((rd_T78 [a0] 0).f0) == 5) (((rd_T78 [a0] 0).f0) == 6)) else (spec_l4Arg.j0 k a0 ((rd_T78 [a0] 0).f0) (((rd_T78 [a0] 0).f0) == 5) (((rd_T78 [a0] 0).f0) == 8)))
theorem spec_l4Arg.mono_l : ∀ k, (∀ y0 y1 y2 y3, LeO (spec_l4Arg.j0 k y0 y1 y2 y3) (spec_l4Arg.j0 (k + 1) y0 y1 y2 y3))
  | 0 => fun _ _ _ _ r h => by simp [spec_l4Arg.j0] at h
  | k + 1 => by
    have ih0 := spec_l4Arg.mono_l k
    · intro y0 y1 y2 y3
      unfold spec_l4Arg.j0
      repeat' (with_reducible first | exact ih0 _ _ _ _ | exact LeO.refl _ | exact LeO.none _ | refine LeO.ite ?_ ?_ | refine LeO.bind ?_ (fun _ => ?_))
theorem spec_l4Arg.mono : ∀ a0 k, LeO (spec_l4Arg.f k a0) (spec_l4Arg.f (k + 1) a0) := by
  intro a0 k
  have ih0 := spec_l4Arg.mono_l k
  unfold spec_l4Arg.f
  repeat' (with_reducible first | exact ih0 _ _ _ _ | exact LeO.refl _ | exact LeO.none _ | refine LeO.ite ?_ ?_ | refine LeO.bind ?_ (fun _ => ?_))
set_option maxHeartbeats 8000000 in
set_option maxRecDepth 100000 in
theorem spec_l4Arg.calls (k : Nat) (adp0 : Addr) (a0 : S78) (r : Bool) (w : World) (hr0 : Kd.C k78 w (some adp0) 1 [a0]) (h : spec_l4Arg.f k a0 = some r) :
    Calls Try.prog 116 #[.pointer (some adp0)] w fun e w' => e = .returned (.bool r) ∧ Drawn0 w w' := by
 have HR0 := a_ hr0; clear hr0; have H : (if ((rd_T78 [a0] 0).f0) = 5 then ((spec_l1In.f ((rd_T78 [a0] 0).f3) 0 9).bind fun t172 => (some t172)) else (if ((rd_T78 [a0] 0).f0) = 6 then (spec_l4Arg.j0 k a0 ((rd_T78 [a0] 0).f0) (((rd_T78 [a0] 0).f0) == 5) (((rd_T78 [a0] 0).f0) == 6)) else (spec_l4Arg.j0 k a0 ((rd_T78 [a0] 0).f0) (((rd_T78 [a0] 0).f0) == 5) (((rd_T78 [a0] 0).f0) == 8)))) = some r := h; clear h; by_cases cx0 : ((rd_T78 [a0] 0).f0) = 5; rw [if_pos cx0] at H; have cx0b0 : (((rd_T78 [a0] 0).f0) == 5) = true := beq_iff_eq.mpr cx0; have cx0b1 : (((rd_T78 [a0] 0).f0) != 5) = false := bne_eq_false_iff_eq.mpr cx0; clear cx0; replace H := Option.bind_eq_some_iff.mp H; obtain ⟨tx1, Ay1, H⟩ := H; have Ax1 := a_ Ay1; clear Ay1; obtain rfl := Option.some.inj H; have m0_0 := t_; rotate_left; rw [if_neg cx0] at H; have cx0b0 : (((rd_T78 [a0] 0).f0) == 5) = false := beq_eq_false_iff_ne.mpr cx0; have cx0b1 : (((rd_T78 [a0] 0).f0) != 5) = true := bne_iff_ne.mpr cx0; have HC4 := a_ H; clear H; have m0_1 := t_; rotate_left
 all_goals (
  have p9922068 : 0 ≤ (0 : Int) := y136_; have q9922068 : 0 < ([a0].length : Int) := y92_; obtain ⟨ad9922068, A171_4, c171_4, A171_5, c171_5, e9922068, hx9922068_0, hx9922068_1, hx9922068_2, hx9922068_3, hx9922068_4, hx9922068_5, hl9922068_4, hi171_4, hl9922068_5, hi171_5⟩ := at_T78 HR0.out 0 p9922068 q9922068; obtain rfl : adp0 = ad9922068 := (by injection e9922068); have qi171 : (0 < [a0].length) = True := eq_true y136_; (try rw [show ((0 : Int)).toNat = 0 from rfl] at hx9922068_0); (try rw [show 0 * 6 = 0 from rfl] at hx9922068_0); (try rw [Addr.add_zero'] at hx9922068_0); (try rw [show ((0 : Int)).toNat = 0 from rfl] at hx9922068_1); (try rw [show 0 * 6 = 0 from rfl] at hx9922068_1); (try rw [Addr.add_zero'] at hx9922068_1); (try rw [show ((0 : Int)).toNat = 0 from rfl] at hx9922068_2); (try rw [show 0 * 6 = 0 from rfl] at hx9922068_2); (try rw [Addr.add_zero'] at hx9922068_2); (try rw [show ((0 : Int)).toNat = 0 from rfl] at hx9922068_3); (try rw [show 0 * 6 = 0 from rfl] at hx9922068_3); (try rw [Addr.add_zero'] at hx9922068_3); (try rw [show ((0 : Int)).toNat = 0 from rfl] at hx9922068_4); (try rw [show 0 * 6 = 0 from rfl] at hx9922068_4); (try rw [Addr.add_zero'] at hx9922068_4); (try rw [show ((0 : Int)).toNat = 0 from rfl] at hx9922068_5); (try rw [show 0 * 6 = 0 from rfl] at hx9922068_5); (try rw [Addr.add_zero'] at hx9922068_5); have HR171_4 := a_ hi171_4; have HC171_4 := a_ hl9922068_4; clear hi171_4 hl9922068_4; have HR171_5 := a_ hi171_5; have HC171_5 := a_ hl9922068_5; clear hi171_5 hl9922068_5; replace p9922068 := eq_true p9922068; replace q9922068 := eq_true q9922068; go_enter Try.func116, Try.ntmps116
  first
  | fail_if_success clear m0_0
  |(clear m0_0; go_wp2_with (first | (refine gc_ 74 13 Try.func74 #[.int .i64 ((rd_T78 [a0] 0).f3), .int .i64 0, .int .i64 9] ?_; (with_reducible refine (spec_l1In.calls ((rd_T78 [a0] 0).f3) 0 9 tx1 _ Ax1.out).mono ?_); rintro e w' ⟨rfl, ⟨nd, rfl⟩⟩; refine ⟨_, rfl, ?_⟩))
    go_ret
    exact ⟨y1_, y8_⟩)
  first
  | fail_if_success clear m0_1
  |(clear m0_1; go_upto_if 14 with (fail)
    go_cut [7, 14] (fun v9031657 v9937394 wc => ∃ (kq : Nat) (x7_3 : Bool) (x14_3 : Bool), v9031657 = .bool x7_3 ∧ v9937394 = .bool x14_3 ∧ Aside0 (spec_l4Arg.j0 kq a0 ((rd_T78 [a0] 0).f0) x7_3 x14_3 = some r) ∧ Aside0 (kq ≤ k) ∧ Drawn0 w wc)
    case first =>
     have H := HC4.out; clear HC4; by_cases cx1 : ((rd_T78 [a0] 0).f0) = 6
     ·rw [if_pos cx1] at H; have cx1b0 : (((rd_T78 [a0] 0).f0) == 6) = true := beq_iff_eq.mpr cx1; have cx1b1 : (((rd_T78 [a0] 0).f0) != 6) = false := bne_eq_false_iff_eq.mpr cx1; clear cx1; (first | rw [cx1b0] | (simp only [i64_w, i32_w]; rw [cx1b0]) | skip); have H' := a_ H; clear H; go_wp2
      go_meet
      case rel => exact ⟨_, ((((rd_T78 [a0] 0).f0) == 5)), ((((rd_T78 [a0] 0).f0) == 6)), y1_, y1_, H', ⟨y61_⟩, y8_⟩
     ·rw [if_neg cx1] at H; have cx1b0 : (((rd_T78 [a0] 0).f0) == 6) = false := beq_eq_false_iff_ne.mpr cx1; have cx1b1 : (((rd_T78 [a0] 0).f0) != 6) = true := bne_iff_ne.mpr cx1; (first | rw [cx1b0] | (simp only [i64_w, i32_w]; rw [cx1b0]) | skip); have H' := a_ H; clear H; go_wp2
      go_meet
      case rel => exact ⟨_, ((((rd_T78 [a0] 0).f0) == 5)), ((((rd_T78 [a0] 0).f0) == 8)), y1_, y1_, H', ⟨y61_⟩, y8_⟩
    case rest =>
     clear HC4; (try clear qi1); (try clear cx0); (try clear cx0b0); (try clear cx0b1); (try clear hx9922068_0); (try clear hx9922068_1); (try clear hx9922068_2); (try clear hx9922068_3); (try clear hx9922068_4); (try clear hx9922068_5); (try clear p9922068); (try clear q9922068); obtain ⟨kq, x7_3, x14_3, rfl, rfl, HA, HJ3, ⟨mc3, rfl⟩⟩ := hcut; cases kq with
     | zero => exact absurd HA.out (by simp [spec_l4Arg.j0])
     | succ kj3 =>
      have H := HA.out; clear HA; simp only [spec_l4Arg.j0] at H; by_cases cx1 : x14_3 = true; subst cx1; rw [if_pos rfl] at H; replace H := Option.bind_eq_some_iff.mp H; obtain ⟨tx2, Ay2, H⟩ := H; have Ax2 := a_ Ay2; clear Ay2; obtain rfl := Option.some.inj H; have m1_0 := t_; have m1_1 := t_; have m1_3 := t_; have m1_4 := t_; have m1_6 := t_; have m1_7 := t_; rotate_left; replace cx1 := Bool.eq_false_iff.mpr cx1; subst cx1; rw [if_neg (show ¬ (false = true) by decide)] at H; by_cases cx2 : ((rd_T78 [a0] 0).f0) = 7; rw [if_pos cx2] at H; have cx2b0 : (((rd_T78 [a0] 0).f0) == 7) = true := beq_iff_eq.mpr cx2; have cx2b1 : (((rd_T78 [a0] 0).f0) != 7) = false := bne_eq_false_iff_eq.mpr cx2; clear cx2; replace H := Option.bind_eq_some_iff.mp H; obtain ⟨tx3, Ay3, H⟩ := H; have Ax3 := a_ Ay3; clear Ay3; obtain rfl := Option.some.inj H; have m1_0 := t_; have m1_2 := t_; have m1_3 := t_; have m1_5 := t_; have m1_6 := t_; have m1_8 := t_; rotate_left; rw [if_neg cx2] at H; have cx2b0 : (((rd_T78 [a0] 0).f0) == 7) = false := beq_eq_false_iff_ne.mpr cx2; have cx2b1 : (((rd_T78 [a0] 0).f0) != 7) = true := bne_iff_ne.mpr cx2; obtain rfl := Option.some.inj H; have m1_9 := t_; rotate_left
      all_goals (
       first
       | fail_if_success clear m1_0
       |(clear m1_0; have p9548309 : 0 ≤ (0 : Int) := y136_; have q9548309 : 0 < ([a0].length : Int) := y92_)
       first
       | fail_if_success clear m1_1
       |(clear m1_1; obtain ⟨ad9548309, A173_4, c173_4, A173_5, c173_5, e9548309, hx9548309_0, hx9548309_1, hx9548309_2, hx9548309_3, hx9548309_4, hx9548309_5, hl9548309_4, hi173_4, hl9548309_5, hi173_5⟩ := at_T78 HR0.out 0 p9548309 q9548309; obtain rfl : adp0 = ad9548309 := (by injection e9548309); have qi173 : (0 < [a0].length) = True := eq_true y136_)
       first
       | fail_if_success clear m1_2
       |(clear m1_2; obtain ⟨ad9548309, A175_4, c175_4, A175_5, c175_5, e9548309, hx9548309_0, hx9548309_1, hx9548309_2, hx9548309_3, hx9548309_4, hx9548309_5, hl9548309_4, hi175_4, hl9548309_5, hi175_5⟩ := at_T78 HR0.out 0 p9548309 q9548309; obtain rfl : adp0 = ad9548309 := (by injection e9548309); have qi175 : (0 < [a0].length) = True := eq_true y136_)
       first
       | fail_if_success clear m1_3
       |(clear m1_3; (try rw [show ((0 : Int)).toNat = 0 from rfl] at hx9548309_0); (try rw [show 0 * 6 = 0 from rfl] at hx9548309_0); (try rw [Addr.add_zero'] at hx9548309_0); (try rw [show ((0 : Int)).toNat = 0 from rfl] at hx9548309_1); (try rw [show 0 * 6 = 0 from rfl] at hx9548309_1); (try rw [Addr.add_zero'] at hx9548309_1); (try rw [show ((0 : Int)).toNat = 0 from rfl] at hx9548309_2); (try rw [show 0 * 6 = 0 from rfl] at hx9548309_2); (try rw [Addr.add_zero'] at hx9548309_2); (try rw [show ((0 : Int)).toNat = 0 from rfl] at hx9548309_3); (try rw [show 0 * 6 = 0 from rfl] at hx9548309_3); (try rw [Addr.add_zero'] at hx9548309_3); (try rw [show ((0 : Int)).toNat = 0 from rfl] at hx9548309_4); (try rw [show 0 * 6 = 0 from rfl] at hx9548309_4); (try rw [Addr.add_zero'] at hx9548309_4); (try rw [show ((0 : Int)).toNat = 0 from rfl] at hx9548309_5); (try rw [show 0 * 6 = 0 from rfl] at hx9548309_5); (try rw [Addr.add_zero'] at hx9548309_5))
       first
       | fail_if_success clear m1_4
       |(clear m1_4; have HR173_4 := a_ hi173_4; have HC173_4 := a_ hl9548309_4; clear hi173_4 hl9548309_4; have HR173_5 := a_ hi173_5; have HC173_5 := a_ hl9548309_5; clear hi173_5 hl9548309_5)
       first
       | fail_if_success clear m1_5
       |(clear m1_5; have HR175_4 := a_ hi175_4; have HC175_4 := a_ hl9548309_4; clear hi175_4 hl9548309_4; have HR175_5 := a_ hi175_5; have HC175_5 := a_ hl9548309_5; clear hi175_5 hl9548309_5)
       first
       | fail_if_success clear m1_6
       |(clear m1_6; replace p9548309 := eq_true p9548309; replace q9548309 := eq_true q9548309; go_wp2_with (first | (have mkq_ := m1_7; clear mkq_; refine gc_ 74 21 Try.func74 #[.int .i64 ((rd_T78 [a0] 0).f3), .int .i64 1, .int .i64 99] ?_; (with_reducible refine (spec_l1In.calls ((rd_T78 [a0] 0).f3) 1 99 tx2 _ Ax2.out).mono ?_); rintro e w' ⟨rfl, ⟨nd, rfl⟩⟩; refine ⟨_, rfl, ?_⟩) | (have mkq_ := m1_8; clear mkq_; refine gc_ 74 28 Try.func74 #[.int .i64 ((rd_T78 [a0] 0).f3), .int .i64 0, .int .i64 3] ?_; (with_reducible refine (spec_l1In.calls ((rd_T78 [a0] 0).f3) 0 3 tx3 _ Ax3.out).mono ?_); rintro e w' ⟨rfl, ⟨nd, rfl⟩⟩; refine ⟨_, rfl, ?_⟩))
         go_ret
         exact ⟨y1_, y8_⟩)
       first
       | fail_if_success clear m1_9
       |(clear m1_9; go_wp2
         go_ret
         exact ⟨y1_, y8_⟩))))

/-! ### spec_l3Two: function 132 -/
def spec_l3Two.f (a0 : Int) : Option (Bool) := (spec_l1In.f a0 3 9).bind fun t177 => (some t177)
set_option maxHeartbeats 8000000 in
set_option maxRecDepth 100000 in
theorem spec_l3Two.calls (a0 : Int) (r : Bool) (w : World) (h : spec_l3Two.f a0 = some r) :
    Calls Try.prog 132 #[.int .i64 a0] w fun e w' => e = .returned (.bool r) ∧ Drawn0 w w' := by
 have H : ((spec_l1In.f a0 3 9).bind fun t177 => (some t177)) = some r := h; clear h; replace H := Option.bind_eq_some_iff.mp H; obtain ⟨t177, A20, H⟩ := H; have A2 := a_ A20; clear A20; obtain rfl := Option.some.inj H; go_enter Try.func132, Try.ntmps132
 go_wp2_with (first | (refine gc_ 74 4 Try.func74 #[.int .i64 a0, .int .i64 3, .int .i64 9] ?_; (with_reducible refine (spec_l1In.calls a0 3 9 t177 _ A2.out).mono ?_); rintro e w' ⟨rfl, ⟨nd, rfl⟩⟩; refine ⟨_, rfl, ?_⟩))
 go_ret
 exact ⟨y1_, y8_⟩

/-! ### spec_l3Node: function 129 -/
mutual
def spec_l3Node.j0 : Nat → S139 → Int → Bool → Bool → Option (Int)
  | 0, _, _, _, _ => none
  | k + 1, x0, x1, x5, x56 => if x56 = true then (some 1) else (if ((rd_T139 [x0] 0).f0) = 1 then ((spec_l1In.f ((rd_T139 [x0] 0).f1) 0 9999).bind fun t181 => (if t181 = true then (if ((rd_T139 [x0] 0).f0) = 2 then ((spec_l1In.f ((rd_T139 [x0] 0).f1) 0 3).bind fun t182 => (spec_l3Node.j1 k x0 x1 x5 (!t182))) else (spec_l3Node.j1 k x0 x1 x5 false)) else (spec_l3Node.j1 k x0 x1 x5 true))) else (if ((rd_T139 [x0] 0).f0) = 2 then ((spec_l1In.f ((rd_T139 [x0] 0).f1) 0 3).bind fun t183 => (spec_l3Node.j1 k x0 x1 x5 (!t183))) else (spec_l3Node.j1 k x0 x1 x5 false)))
def spec_l3Node.j1 : Nat → S139 → Int → Bool → Bool → Option (Int)
  | 0, _, _, _, _ => none
  | k + 1, x0, x1, x5, x84 => if x84 = true then (some 3) else (if x5 = true then ((spec_l3Two.f ((rd_T139 [x0] 0).f0)).bind fun t185 => (if t185 = true then ((spec_l1In.f ((rd_T139 [x0] 0).f3) 0 (wrap64 (x1 - 1))).bind fun t186 => (if t186 = true then (some 0) else (some 3))) else (some 0))) else ((spec_l1In.f ((rd_T139 [x0] 0).f2) 0 (wrap64 (x1 - 1))).bind fun t188 => (if t188 = true then ((spec_l3Two.f ((rd_T139 [x0] 0).f0)).bind fun t189 => (if t189 = true then ((spec_l1In.f ((rd_T139 [x0] 0).f3) 0 (wrap64 (x1 - 1))).bind fun t190 => (if t190 = true then (some 0) else (some 3))) else (some 0))) else (some 3))))
end
def spec_l3Node.f (k : Nat) (a0 : S139) (a1 : Int) : Option (Int) := (spec_l1In.f ((rd_T139 [a0] 0).f0) 1 10).bind fun t179 => (if t179 = true then (if ((rd_T139 [a0] 0).f0) ≤ 2 then (if ((rd_T139 [a0] 0).f2) = 0 then (if ((rd_T139 [a0] 0).f3) = 0 then (if ((rd_T139 [a0] 0).f0) = 10 then (spec_l3Node.j0 k a0 a1 (decide (((rd_T139 [a0] 0).f0) ≤ 2)) (((rd_T139 [a0] 0).f3) != 0)) else (spec_l3Node.j0 k a0 a1 (decide (((rd_T139 [a0] 0).f0) ≤ 2)) false)) else (spec_l3Node.j0 k a0 a1 (decide (((rd_T139 [a0] 0).f0) ≤ 2)) true)) else (spec_l3Node.j0 k a0 a1 (decide (((rd_T139 [a0] 0).f0) ≤ 2)) true)) else (if ((rd_T139 [a0] 0).f1) = 0 then (if ((rd_T139 [a0] 0).f0) = 10 then (spec_l3Node.j0 k a0 a1 (decide (((rd_T139 [a0] 0).f0) ≤ 2)) (((rd_T139 [a0] 0).f3) != 0)) else (spec_l3Node.j0 k a0 a1 (decide (((rd_T139 [a0] 0).f0) ≤ 2)) false)) else (spec_l3Node.j0 k a0 a1 (decide (((rd_T139 [a0] 0).f0) ≤ 2)) true))) else (some 1))
theorem spec_l3Node.mono_l : ∀ k, (∀ y0 y1 y2 y3, LeO (spec_l3Node.j0 k y0 y1 y2 y3) (spec_l3Node.j0 (k + 1) y0 y1 y2 y3)) ∧ (∀ y0 y1 y2 y3, LeO (spec_l3Node.j1 k y0 y1 y2 y3) (spec_l3Node.j1 (k + 1) y0 y1 y2 y3))
  | 0 => ⟨fun _ _ _ _ r h => by simp [spec_l3Node.j0] at h, fun _ _ _ _ r h => by simp [spec_l3Node.j1] at h⟩
  | k + 1 => by
    obtain ⟨ih0, ih1⟩ := spec_l3Node.mono_l k
    refine ⟨?_, ?_⟩
    · intro y0 y1 y2 y3
      unfold spec_l3Node.j0
      repeat' (with_reducible first | exact ih0 _ _ _ _ | exact ih1 _ _ _ _ | exact LeO.refl _ | exact LeO.none _ | refine LeO.ite ?_ ?_ | refine LeO.bind ?_ (fun _ => ?_))
    · intro y0 y1 y2 y3
      unfold spec_l3Node.j1
      repeat' (with_reducible first | exact ih0 _ _ _ _ | exact ih1 _ _ _ _ | exact LeO.refl _ | exact LeO.none _ | refine LeO.ite ?_ ?_ | refine LeO.bind ?_ (fun _ => ?_))
theorem spec_l3Node.mono : ∀ a0 a1 k, LeO (spec_l3Node.f k a0 a1) (spec_l3Node.f (k + 1) a0 a1) := by
  intro a0 a1 k
  obtain ⟨ih0, ih1⟩ := spec_l3Node.mono_l k
  unfold spec_l3Node.f
  repeat' (with_reducible first | exact ih0 _ _ _ _ | exact ih1 _ _ _ _ | exact LeO.refl _ | exact LeO.none _ | refine LeO.ite ?_ ?_ | refine LeO.bind ?_ (fun _ => ?_))
set_option maxHeartbeats 8000000 in
set_option maxRecDepth 100000 in
theorem spec_l3Node.calls (k : Nat) (adp0 : Addr) (a0 : S139) (a1 : Int) (r : Int) (w : World) (hr0 : Kd.C k139 w (some adp0) 1 [a0]) (h : spec_l3Node.f k a0 a1 = some r) :
    Calls Try.prog 129 #[.pointer (some adp0), .int .i64 a1] w fun e w' => e = .returned (.int .i64 r) ∧ Drawn0 w w' := by
 have HR0 := a_ hr0; clear hr0; have H : ((spec_l1In.f ((rd_T139 [a0] 0).f0) 1 10).bind fun t179 => (if t179 = true then (if ((rd_T139 [a0] 0).f0) ≤ 2 then (if ((rd_T139 [a0] 0).f2) = 0 then (if ((rd_T139 [a0] 0).f3) = 0 then (if ((rd_T139 [a0] 0).f0) = 10 then (spec_l3Node.j0 k a0 a1 (decide (((rd_T139 [a0] 0).f0) ≤ 2)) (((rd_T139 [a0] 0).f3) != 0)) else (spec_l3Node.j0 k a0 a1 (decide (((rd_T139 [a0] 0).f0) ≤ 2)) false)) else (spec_l3Node.j0 k a0 a1 (decide (((rd_T139 [a0] 0).f0) ≤ 2)) true)) else (spec_l3Node.j0 k a0 a1 (decide (((rd_T139 [a0] 0).f0) ≤ 2)) true)) else (if ((rd_T139 [a0] 0).f1) = 0 then (if ((rd_T139 [a0] 0).f0) = 10 then (spec_l3Node.j0 k a0 a1 (decide (((rd_T139 [a0] 0).f0) ≤ 2)) (((rd_T139 [a0] 0).f3) != 0)) else (spec_l3Node.j0 k a0 a1 (decide (((rd_T139 [a0] 0).f0) ≤ 2)) false)) else (spec_l3Node.j0 k a0 a1 (decide (((rd_T139 [a0] 0).f0) ≤ 2)) true))) else (some 1))) = some r := h; clear h; replace H := Option.bind_eq_some_iff.mp H; obtain ⟨tx0, Ay0, H⟩ := H; have Ax0 := a_ Ay0; clear Ay0; by_cases cx1 : tx0 = true
 ·subst cx1; rw [if_pos rfl] at H; have HC5 := a_ H; clear H; have p178 : 0 ≤ (0 : Int) := y136_; have q178 : 0 < ([a0].length : Int) := y92_; obtain ⟨ad178, e178, hx178_0, hx178_1, hx178_2, hx178_3⟩ := at_T139 HR0.out 0 p178 q178; obtain rfl : adp0 = ad178 := (by injection e178); have qi178 : (0 < [a0].length) = True := eq_true y136_; (try rw [show ((0 : Int)).toNat = 0 from rfl] at hx178_0); (try rw [show 0 * 4 = 0 from rfl] at hx178_0); (try rw [Addr.add_zero'] at hx178_0); (try rw [show ((0 : Int)).toNat = 0 from rfl] at hx178_1); (try rw [show 0 * 4 = 0 from rfl] at hx178_1); (try rw [Addr.add_zero'] at hx178_1); (try rw [show ((0 : Int)).toNat = 0 from rfl] at hx178_2); (try rw [show 0 * 4 = 0 from rfl] at hx178_2); (try rw [Addr.add_zero'] at hx178_2); (try rw [show ((0 : Int)).toNat = 0 from rfl] at hx178_3); (try rw [show 0 * 4 = 0 from rfl] at hx178_3); (try rw [Addr.add_zero'] at hx178_3); replace p178 := eq_true p178; replace q178 := eq_true q178; go_enter Try.func129, Try.ntmps129
  go_upto_region 4 with (first | (refine gc_ 74 10 Try.func74 #[.int .i64 ((rd_T139 [a0] 0).f0), .int .i64 1, .int .i64 10] ?_; (with_reducible refine (spec_l1In.calls ((rd_T139 [a0] 0).f0) 1 10 true _ Ax0.out).mono ?_); rintro e w' ⟨rfl, ⟨nd, rfl⟩⟩; refine ⟨_, rfl, ?_⟩))
  (try simp only [Act.put, List.setIfInBounds_toArray, List.set_cons_zero, List.set_cons_succ]); go_cut [5, 56] (fun v5 v56 wc => ∃ (kq : Nat) (x5_4 : Bool) (x56_4 : Bool), v5 = .bool x5_4 ∧ v56 = .bool x56_4 ∧ Aside0 (spec_l3Node.j0 kq a0 a1 x5_4 x56_4 = some r) ∧ Aside0 (kq ≤ k) ∧ Drawn0 w wc)
  case first =>
   have H := HC5.out; clear HC5; by_cases cx2 : ((rd_T139 [a0] 0).f0) ≤ 2; rw [if_pos cx2] at H; have cx2b0 : decide (((rd_T139 [a0] 0).f0) ≤ 2) = true := decide_eq_true cx2; clear cx2; (first | rw [cx2b0] | (simp only [i64_w, i32_w]; rw [cx2b0]) | skip); by_cases cx3 : ((rd_T139 [a0] 0).f2) = 0; rw [if_pos cx3] at H; have cx3b0 : (((rd_T139 [a0] 0).f2) == 0) = true := beq_iff_eq.mpr cx3; have cx3b1 : (((rd_T139 [a0] 0).f2) != 0) = false := bne_eq_false_iff_eq.mpr cx3; clear cx3; by_cases cx4 : ((rd_T139 [a0] 0).f3) = 0; rw [if_pos cx4] at H; have cx4b0 : (((rd_T139 [a0] 0).f3) == 0) = true := beq_iff_eq.mpr cx4; have cx4b1 : (((rd_T139 [a0] 0).f3) != 0) = false := bne_eq_false_iff_eq.mpr cx4; clear cx4; by_cases cx5 : ((rd_T139 [a0] 0).f0) = 10; rw [if_pos cx5] at H; have cx5b0 : (((rd_T139 [a0] 0).f0) == 10) = true := beq_iff_eq.mpr cx5; have cx5b1 : (((rd_T139 [a0] 0).f0) != 10) = false := bne_eq_false_iff_eq.mpr cx5; clear cx5; have H' := a_ H; clear H; have m1_0 := t_; rotate_left; rw [if_neg cx5] at H; have cx5b0 : (((rd_T139 [a0] 0).f0) == 10) = false := beq_eq_false_iff_ne.mpr cx5; have cx5b1 : (((rd_T139 [a0] 0).f0) != 10) = true := bne_iff_ne.mpr cx5; have H' := a_ H; clear H; have m1_1 := t_; rotate_left; rw [if_neg cx4] at H; have cx4b0 : (((rd_T139 [a0] 0).f3) == 0) = false := beq_eq_false_iff_ne.mpr cx4; have cx4b1 : (((rd_T139 [a0] 0).f3) != 0) = true := bne_iff_ne.mpr cx4; have H' := a_ H; clear H; have m1_2 := t_; rotate_left; rw [if_neg cx3] at H; have cx3b0 : (((rd_T139 [a0] 0).f2) == 0) = false := beq_eq_false_iff_ne.mpr cx3; have cx3b1 : (((rd_T139 [a0] 0).f2) != 0) = true := bne_iff_ne.mpr cx3; have H' := a_ H; clear H; have m1_2 := t_; rotate_left; rw [if_neg cx2] at H; have cx2b0 : decide (((rd_T139 [a0] 0).f0) ≤ 2) = false := decide_eq_false cx2; clear cx2; (first | rw [cx2b0] | (simp only [i64_w, i32_w]; rw [cx2b0]) | skip); by_cases cx3 : ((rd_T139 [a0] 0).f1) = 0; rw [if_pos cx3] at H; have cx3b0 : (((rd_T139 [a0] 0).f1) == 0) = true := beq_iff_eq.mpr cx3; have cx3b1 : (((rd_T139 [a0] 0).f1) != 0) = false := bne_eq_false_iff_eq.mpr cx3; clear cx3; by_cases cx4 : ((rd_T139 [a0] 0).f0) = 10; rw [if_pos cx4] at H; have cx4b0 : (((rd_T139 [a0] 0).f0) == 10) = true := beq_iff_eq.mpr cx4; have cx4b1 : (((rd_T139 [a0] 0).f0) != 10) = false := bne_eq_false_iff_eq.mpr cx4; clear cx4; have H' := a_ H; clear H; have m1_0 := t_; rotate_left; rw [if_neg cx4] at H; have cx4b0 : (((rd_T139 [a0] 0).f0) == 10) = false := beq_eq_false_iff_ne.mpr cx4; have cx4b1 : (((rd_T139 [a0] 0).f0) != 10) = true := bne_iff_ne.mpr cx4; have H' := a_ H; clear H; have m1_1 := t_; rotate_left; rw [if_neg cx3] at H; have cx3b0 : (((rd_T139 [a0] 0).f1) == 0) = false := beq_eq_false_iff_ne.mpr cx3; have cx3b1 : (((rd_T139 [a0] 0).f1) != 0) = true := bne_iff_ne.mpr cx3; have H' := a_ H; clear H; have m1_2 := t_; rotate_left
   all_goals (
    go_wp2
    go_meet
    first
    | fail_if_success clear m1_0
    |(clear m1_0
      case rel => exact ⟨_, (decide (((rd_T139 [a0] 0).f0) ≤ 2)), ((((rd_T139 [a0] 0).f3) != 0)), y1_, y1_, H', ⟨y61_⟩, y8_⟩)
    first
    | fail_if_success clear m1_1
    |(clear m1_1
      case rel => exact ⟨_, (decide (((rd_T139 [a0] 0).f0) ≤ 2)), (false), y1_, y1_, H', ⟨y61_⟩, y8_⟩)
    first
    | fail_if_success clear m1_2
    |(clear m1_2
      case rel => exact ⟨_, (decide (((rd_T139 [a0] 0).f0) ≤ 2)), (true), y1_, y1_, H', ⟨y61_⟩, y8_⟩))
  case rest =>
   clear HC5; (try clear qi1); (try clear cx1); (try clear hx178_0); (try clear hx178_1); (try clear hx178_2); (try clear hx178_3); (try clear p178); (try clear q178); obtain ⟨kq, x5_4, x56_4, rfl, rfl, HA, HJ4, ⟨mc4, rfl⟩⟩ := hcut; cases kq with
   | zero => exact absurd HA.out (by simp [spec_l3Node.j0])
   | succ kj4 =>
    have H := HA.out; clear HA; simp only [spec_l3Node.j0] at H; by_cases cx2 : x56_4 = true
    ·subst cx2; rw [if_pos rfl] at H; obtain rfl := Option.some.inj H; go_wp2
     go_ret
     exact ⟨y1_, y8_⟩
    ·replace cx2 := Bool.eq_false_iff.mpr cx2; subst cx2; rw [if_neg (show ¬ (false = true) by decide)] at H; have HC13 := a_ H; clear H; go_upto_region 6 with (fail)
     go_cut [5, 84] (fun v5 v84 wc => ∃ (kq : Nat) (x5_12 : Bool) (x84_12 : Bool), v5 = .bool x5_12 ∧ v84 = .bool x84_12 ∧ Aside0 (spec_l3Node.j1 kq a0 a1 x5_12 x84_12 = some r) ∧ Aside0 (kq ≤ kj4) ∧ Drawn0 w wc)
     case first =>
      have H := HC13.out; clear HC13; by_cases cx3 : ((rd_T139 [a0] 0).f0) = 1; rw [if_pos cx3] at H; have cx3b0 : (((rd_T139 [a0] 0).f0) == 1) = true := beq_iff_eq.mpr cx3; have cx3b1 : (((rd_T139 [a0] 0).f0) != 1) = false := bne_eq_false_iff_eq.mpr cx3; clear cx3; (first | rw [cx3b0] | (simp only [i64_w, i32_w]; rw [cx3b0]) | skip); replace H := Option.bind_eq_some_iff.mp H; obtain ⟨tx4, Ay4, H⟩ := H; have Ax4 := a_ Ay4; clear Ay4; by_cases cx5 : tx4 = true; subst cx5; rw [if_pos rfl] at H; by_cases cx6 : ((rd_T139 [a0] 0).f0) = 2; rw [if_pos cx6] at H; have cx6b0 : (((rd_T139 [a0] 0).f0) == 2) = true := beq_iff_eq.mpr cx6; have cx6b1 : (((rd_T139 [a0] 0).f0) != 2) = false := bne_eq_false_iff_eq.mpr cx6; clear cx6; replace H := Option.bind_eq_some_iff.mp H; obtain ⟨tx7, Ay7, H⟩ := H; have Ax7 := a_ Ay7; clear Ay7; have H' := a_ H; clear H; have m2_0 := t_; have m2_1 := t_; have m2_2 := t_; have m2_4 := t_; rotate_left; rw [if_neg cx6] at H; have cx6b0 : (((rd_T139 [a0] 0).f0) == 2) = false := beq_eq_false_iff_ne.mpr cx6; have cx6b1 : (((rd_T139 [a0] 0).f0) != 2) = true := bne_iff_ne.mpr cx6; have H' := a_ H; clear H; have m2_0 := t_; have m2_1 := t_; have m2_6 := t_; rotate_left; replace cx5 := Bool.eq_false_iff.mpr cx5; subst cx5; rw [if_neg (show ¬ (false = true) by decide)] at H; have H' := a_ H; clear H; have m2_0 := t_; have m2_1 := t_; have m2_7 := t_; rotate_left; rw [if_neg cx3] at H; have cx3b0 : (((rd_T139 [a0] 0).f0) == 1) = false := beq_eq_false_iff_ne.mpr cx3; have cx3b1 : (((rd_T139 [a0] 0).f0) != 1) = true := bne_iff_ne.mpr cx3; (first | rw [cx3b0] | (simp only [i64_w, i32_w]; rw [cx3b0]) | skip); by_cases cx4 : ((rd_T139 [a0] 0).f0) = 2; rw [if_pos cx4] at H; have cx4b0 : (((rd_T139 [a0] 0).f0) == 2) = true := beq_iff_eq.mpr cx4; have cx4b1 : (((rd_T139 [a0] 0).f0) != 2) = false := bne_eq_false_iff_eq.mpr cx4; clear cx4; replace H := Option.bind_eq_some_iff.mp H; obtain ⟨tx5, Ay5, H⟩ := H; have Ax5 := a_ Ay5; clear Ay5; have H' := a_ H; clear H; have m2_0 := t_; have m2_3 := t_; have m2_8 := t_; rotate_left; rw [if_neg cx4] at H; have cx4b0 : (((rd_T139 [a0] 0).f0) == 2) = false := beq_eq_false_iff_ne.mpr cx4; have cx4b1 : (((rd_T139 [a0] 0).f0) != 2) = true := bne_iff_ne.mpr cx4; have H' := a_ H; clear H; have m2_5 := t_; have m2_6 := t_; rotate_left
      all_goals (
       have p9922068 : 0 ≤ (0 : Int) := y136_; have q9922068 : 0 < ([a0].length : Int) := y92_; obtain ⟨ad9922068, e9922068, hx9922068_0, hx9922068_1, hx9922068_2, hx9922068_3⟩ := at_T139 HR0.out 0 p9922068 q9922068; obtain rfl : adp0 = ad9922068 := (by injection e9922068); have qi180 : (0 < [a0].length) = True := eq_true y136_; (try rw [show ((0 : Int)).toNat = 0 from rfl] at hx9922068_0); (try rw [show 0 * 4 = 0 from rfl] at hx9922068_0); (try rw [Addr.add_zero'] at hx9922068_0); (try rw [show ((0 : Int)).toNat = 0 from rfl] at hx9922068_1); (try rw [show 0 * 4 = 0 from rfl] at hx9922068_1); (try rw [Addr.add_zero'] at hx9922068_1); (try rw [show ((0 : Int)).toNat = 0 from rfl] at hx9922068_2); (try rw [show 0 * 4 = 0 from rfl] at hx9922068_2); (try rw [Addr.add_zero'] at hx9922068_2); (try rw [show ((0 : Int)).toNat = 0 from rfl] at hx9922068_3); (try rw [show 0 * 4 = 0 from rfl] at hx9922068_3); (try rw [Addr.add_zero'] at hx9922068_3); replace p9922068 := eq_true p9922068; replace q9922068 := eq_true q9922068
       first
       | fail_if_success clear m2_0
       |(clear m2_0; go_wp2_with (first | (have mkq_ := m2_1; clear mkq_; go_at_call 74; (with_reducible refine (spec_l1In.calls ((rd_T139 [a0] 0).f1) 0 9999 _ _ Ax4.out).mono ?_); rintro e w' ⟨rfl, ⟨nd, rfl⟩⟩) | (have mkq_ := m2_2; clear mkq_; go_at_call 74; (with_reducible refine (spec_l1In.calls ((rd_T139 [a0] 0).f1) 0 3 tx7 _ Ax7.out).mono ?_); rintro e w' ⟨rfl, ⟨nd, rfl⟩⟩) | (have mkq_ := m2_3; clear mkq_; go_at_call 74; (with_reducible refine (spec_l1In.calls ((rd_T139 [a0] 0).f1) 0 3 tx5 _ Ax5.out).mono ?_); rintro e w' ⟨rfl, ⟨nd, rfl⟩⟩))
         go_meet)
       first
       | fail_if_success clear m2_4
       |(clear m2_4
         case rel => exact ⟨_, (x5_4), (!tx7), y1_, y1_, H', ⟨y140_⟩, y8_⟩)
       first
       | fail_if_success clear m2_5
       |(clear m2_5; go_wp2
         go_meet)
       first
       | fail_if_success clear m2_6
       |(clear m2_6
         case rel => exact ⟨_, (x5_4), (false), y1_, y1_, H', ⟨y140_⟩, y8_⟩)
       first
       | fail_if_success clear m2_7
       |(clear m2_7
         case rel => exact ⟨_, (x5_4), (true), y1_, y1_, H', ⟨y140_⟩, y8_⟩)
       first
       | fail_if_success clear m2_8
       |(clear m2_8
         case rel => exact ⟨_, (x5_4), (!tx5), y1_, y1_, H', ⟨y140_⟩, y8_⟩))
     case rest =>
      clear HC13; (try clear qi1); (try clear cx1); (try clear cx2); (try clear qi17); (try clear qi18); (try clear hx178_0); (try clear hx178_1); (try clear hx178_2); (try clear hx178_3); (try clear p178); (try clear q178); obtain ⟨kq, x5_12, x84_12, rfl, rfl, HA, HJ12, ⟨mc12, rfl⟩⟩ := hcut; cases kq with
      | zero => exact absurd HA.out (by simp [spec_l3Node.j1])
      | succ kj12 =>
       have H := HA.out; clear HA; simp only [spec_l3Node.j1] at H; by_cases cx3 : x84_12 = true; subst cx3; rw [if_pos rfl] at H; obtain rfl := Option.some.inj H; have m2_0 := t_; rotate_left; replace cx3 := Bool.eq_false_iff.mpr cx3; subst cx3; rw [if_neg (show ¬ (false = true) by decide)] at H; by_cases cx4 : x5_12 = true; subst cx4; rw [if_pos rfl] at H; replace H := Option.bind_eq_some_iff.mp H; obtain ⟨tx5, Ay5, H⟩ := H; have Ax5 := a_ Ay5; clear Ay5; by_cases cx6 : tx5 = true; subst cx6; rw [if_pos rfl] at H; replace H := Option.bind_eq_some_iff.mp H; obtain ⟨tx7, Ay7, H⟩ := H; have Ax7 := a_ Ay7; clear Ay7; by_cases cx8 : tx7 = true; subst cx8; rw [if_pos rfl] at H; obtain rfl := Option.some.inj H; have m2_1 := t_; have m2_2 := t_; have m2_4 := t_; have m2_5 := t_; have m2_6 := t_; rotate_left; replace cx8 := Bool.eq_false_iff.mpr cx8; subst cx8; rw [if_neg (show ¬ (false = true) by decide)] at H; obtain rfl := Option.some.inj H; have m2_1 := t_; have m2_2 := t_; have m2_4 := t_; have m2_5 := t_; have m2_6 := t_; rotate_left; replace cx6 := Bool.eq_false_iff.mpr cx6; subst cx6; rw [if_neg (show ¬ (false = true) by decide)] at H; obtain rfl := Option.some.inj H; have m2_1 := t_; have m2_2 := t_; have m2_4 := t_; have m2_5 := t_; rotate_left; replace cx4 := Bool.eq_false_iff.mpr cx4; subst cx4; rw [if_neg (show ¬ (false = true) by decide)] at H; replace H := Option.bind_eq_some_iff.mp H; obtain ⟨tx5, Ay5, H⟩ := H; have Ax5 := a_ Ay5; clear Ay5; by_cases cx6 : tx5 = true; subst cx6; rw [if_pos rfl] at H; replace H := Option.bind_eq_some_iff.mp H; obtain ⟨tx7, Ay7, H⟩ := H; have Ax7 := a_ Ay7; clear Ay7; by_cases cx8 : tx7 = true; subst cx8; rw [if_pos rfl] at H; replace H := Option.bind_eq_some_iff.mp H; obtain ⟨tx9, Ay9, H⟩ := H; have Ax9 := a_ Ay9; clear Ay9; by_cases cx10 : tx9 = true; subst cx10; rw [if_pos rfl] at H; obtain rfl := Option.some.inj H; have m2_1 := t_; have m2_3 := t_; have m2_4 := t_; have m2_7 := t_; have m2_8 := t_; have m2_9 := t_; rotate_left; replace cx10 := Bool.eq_false_iff.mpr cx10; subst cx10; rw [if_neg (show ¬ (false = true) by decide)] at H; obtain rfl := Option.some.inj H; have m2_1 := t_; have m2_3 := t_; have m2_4 := t_; have m2_7 := t_; have m2_8 := t_; have m2_9 := t_; rotate_left; replace cx8 := Bool.eq_false_iff.mpr cx8; subst cx8; rw [if_neg (show ¬ (false = true) by decide)] at H; obtain rfl := Option.some.inj H; have m2_1 := t_; have m2_3 := t_; have m2_4 := t_; have m2_7 := t_; have m2_8 := t_; rotate_left; replace cx6 := Bool.eq_false_iff.mpr cx6; subst cx6; rw [if_neg (show ¬ (false = true) by decide)] at H; obtain rfl := Option.some.inj H; have m2_1 := t_
       have m2_3 := t_; have m2_4 := t_; have m2_7 := t_; rotate_left
       all_goals (
        first
        | fail_if_success clear m2_0
        |(clear m2_0; go_wp2
          go_ret
          exact ⟨y1_, y8_⟩)
        first
        | fail_if_success clear m2_1
        |(clear m2_1; have p9922068 : 0 ≤ (0 : Int) := y136_; have q9922068 : 0 < ([a0].length : Int) := y92_; obtain ⟨ad9922068, e9922068, hx9922068_0, hx9922068_1, hx9922068_2, hx9922068_3⟩ := at_T139 HR0.out 0 p9922068 q9922068; obtain rfl : adp0 = ad9922068 := (by injection e9922068))
        first
        | fail_if_success clear m2_2
        |(clear m2_2; have qi184 : (0 < [a0].length) = True := eq_true y136_)
        first
        | fail_if_success clear m2_3
        |(clear m2_3; have qi187 : (0 < [a0].length) = True := eq_true y136_)
        first
        | fail_if_success clear m2_4
        |(clear m2_4; (try rw [show ((0 : Int)).toNat = 0 from rfl] at hx9922068_0); (try rw [show 0 * 4 = 0 from rfl] at hx9922068_0); (try rw [Addr.add_zero'] at hx9922068_0); (try rw [show ((0 : Int)).toNat = 0 from rfl] at hx9922068_1); (try rw [show 0 * 4 = 0 from rfl] at hx9922068_1); (try rw [Addr.add_zero'] at hx9922068_1); (try rw [show ((0 : Int)).toNat = 0 from rfl] at hx9922068_2); (try rw [show 0 * 4 = 0 from rfl] at hx9922068_2); (try rw [Addr.add_zero'] at hx9922068_2); (try rw [show ((0 : Int)).toNat = 0 from rfl] at hx9922068_3); (try rw [show 0 * 4 = 0 from rfl] at hx9922068_3); (try rw [Addr.add_zero'] at hx9922068_3); replace p9922068 := eq_true p9922068; replace q9922068 := eq_true q9922068; go_wp2_with (first | (have mkq_ := m2_5; clear mkq_; go_at_call 132; (with_reducible refine (spec_l3Two.calls ((rd_T139 [a0] 0).f0) _ _ Ax5.out).mono ?_); rintro e w' ⟨rfl, ⟨nd, rfl⟩⟩) | (have mkq_ := m2_6; clear mkq_; go_at_call 74; (with_reducible refine (spec_l1In.calls ((rd_T139 [a0] 0).f3) 0 (wrap64 (a1 - 1)) _ _ Ax7.out).mono ?_); rintro e w' ⟨rfl, ⟨nd, rfl⟩⟩) | (have mkq_ := m2_7; clear mkq_; go_at_call 74; (with_reducible refine (spec_l1In.calls ((rd_T139 [a0] 0).f2) 0 (wrap64 (a1 - 1)) _ _ Ax5.out).mono ?_); rintro e w' ⟨rfl, ⟨nd, rfl⟩⟩) | (have mkq_ := m2_8; clear mkq_; go_at_call 132; (with_reducible refine (spec_l3Two.calls ((rd_T139 [a0] 0).f0) _ _ Ax7.out).mono ?_); rintro e w' ⟨rfl, ⟨nd, rfl⟩⟩) | (have mkq_ := m2_9; clear mkq_; go_at_call 74; (with_reducible refine (spec_l1In.calls ((rd_T139 [a0] 0).f3) 0 (wrap64 (a1 - 1)) _ _ Ax9.out).mono ?_); rintro e w' ⟨rfl, ⟨nd, rfl⟩⟩))
          go_ret
          exact ⟨y1_, y8_⟩))
 ·replace cx1 := Bool.eq_false_iff.mpr cx1; subst cx1; rw [if_neg (show ¬ (false = true) by decide)] at H; obtain rfl := Option.some.inj H; have p178 : 0 ≤ (0 : Int) := y136_; have q178 : 0 < ([a0].length : Int) := y92_; obtain ⟨ad178, e178, hx178_0, hx178_1, hx178_2, hx178_3⟩ := at_T139 HR0.out 0 p178 q178; obtain rfl : adp0 = ad178 := (by injection e178); have qi178 : (0 < [a0].length) = True := eq_true y136_; (try rw [show ((0 : Int)).toNat = 0 from rfl] at hx178_0); (try rw [show 0 * 4 = 0 from rfl] at hx178_0); (try rw [Addr.add_zero'] at hx178_0); (try rw [show ((0 : Int)).toNat = 0 from rfl] at hx178_1); (try rw [show 0 * 4 = 0 from rfl] at hx178_1); (try rw [Addr.add_zero'] at hx178_1); (try rw [show ((0 : Int)).toNat = 0 from rfl] at hx178_2); (try rw [show 0 * 4 = 0 from rfl] at hx178_2); (try rw [Addr.add_zero'] at hx178_2); (try rw [show ((0 : Int)).toNat = 0 from rfl] at hx178_3); (try rw [show 0 * 4 = 0 from rfl] at hx178_3); (try rw [Addr.add_zero'] at hx178_3); replace p178 := eq_true p178; replace q178 := eq_true q178; go_enter Try.func129, Try.ntmps129
  go_wp2_with (first | (refine gc_ 74 10 Try.func74 #[.int .i64 ((rd_T139 [a0] 0).f0), .int .i64 1, .int .i64 10] ?_; (with_reducible refine (spec_l1In.calls ((rd_T139 [a0] 0).f0) 1 10 false _ Ax0.out).mono ?_); rintro e w' ⟨rfl, ⟨nd, rfl⟩⟩; refine ⟨_, rfl, ?_⟩))
  go_ret
  exact ⟨y1_, y8_⟩

end Go.Proofs.Ytcpcenhpmcfmjaa.L
