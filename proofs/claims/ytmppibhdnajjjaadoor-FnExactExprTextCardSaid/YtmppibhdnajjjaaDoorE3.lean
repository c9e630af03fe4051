-- Written by a program of this session's own (xp.py) for this seat.
import Derived.Test.YtmppibhdnajjjaaDoorEZ
import Derived.Test.YtmppibhdnajjjaaDoorE0
import Derived.Test.YtmppibhdnajjjaaDoorE2
namespace Go.Proofs.YtmppibhdnajjjaaDoor.E
open Go.RowKit Go.Proofs.YtmppibhdnajjjaaDoorW.PrintWords Go.Proofs.YtmppibhdnajjjaaDoorW.PrintLast Go.Proofs.YtmppibhdnajjjaaDoorW.PrintMore
attribute [local go_sem] Instr.field asAgg
attribute [local go_sem] max2_int min2_int max_two min_two max_three min_three max_four min_four   -- for this text's walks alone
set_option linter.unusedVariables false
set_option linter.unusedSimpArgs false

/-! ### impl_firstCode: function 32 -/
def impl_firstCode.l0 : Nat → List Int → Int → Int → Option (Int)
  | 0, _, _, _ => none
  | k + 1, x5, x6, x7 => if x7 < x6 then (if 0 ≤ x7 then (if x7 < (x5.length : Int) then (if (rd x5 x7) = 0 then (impl_firstCode.l0 k x5 x6 (wrap64 (x7 + 1))) else (some (rd x5 x7))) else (none)) else (none)) else (some 0)
def impl_firstCode.f (k : Nat) (l0 : List Int) : Option (Int) := impl_firstCode.l0 k l0 (l0.length : Int) 0
theorem impl_firstCode.mono_l : ∀ k, (∀ y0 y1 y2, LeO (impl_firstCode.l0 k y0 y1 y2) (impl_firstCode.l0 (k + 1) y0 y1 y2))
  | 0 => fun _ _ _ r h => by simp [impl_firstCode.l0] at h
  | k + 1 => by
    have ih0 := impl_firstCode.mono_l k
    · intro y0 y1 y2
      unfold impl_firstCode.l0
      repeat' (with_reducible first | exact ih0 _ _ _ | exact LeO.refl _ | exact LeO.none _ | refine LeO.ite ?_ ?_ | refine LeO.bind ?_ (fun _ => ?_))
theorem impl_firstCode.mono : ∀ a0 k, LeO (impl_firstCode.f k a0) (impl_firstCode.f (k + 1) a0) := by
  intro a0 k
  have ih0 := impl_firstCode.mono_l k
  unfold impl_firstCode.f
  repeat' (with_reducible first | exact ih0 _ _ _ | exact LeO.refl _ | exact LeO.none _ | refine LeO.ite ?_ ?_ | refine LeO.bind ?_ (fun _ => ?_))
set_option maxHeartbeats 8000000 in
set_option maxRecDepth 100000 in
theorem impl_firstCode.calls (k : Nat) (A0 : Option Addr) (c0 : Nat) (l0 : List Int) (r : Int) (w : World) (hr0 : Kd.C (Kd.int .i64) w A0 l0.length l0) (hc0 : l0.length ≤ c0) (h : impl_firstCode.f k l0 = some r) :
    Calls Tryd.prog 32 #[.slice A0 l0.length c0] w fun e w' => e = .returned (.int .i64 r) ∧ Drawn0 w w' := by
 have HR0 := a_ hr0; have HC0 := a_ hc0; clear hr0 hc0; have H : (impl_firstCode.l0 k l0 (l0.length : Int) 0) = some r := h; clear h; have H' := a_ H; clear H; go_enter Tryd.func32, Tryd.ntmps32
 go_wp2
 go_loopg [7] k (fun kq v7 w' => ∃ (x7_1 : Int), v7 = .int .i64 x7_1 ∧ Aside0 (impl_firstCode.l0 kq l0 (l0.length : Int) x7_1 = some r) ∧ Aside0 (kq ≤ k) ∧ Drawn0 w w')
 case atStart => exact ⟨(0), y5_, H', ⟨Nat.le_refl _⟩, y10_⟩
 case round =>
  clear H'; obtain ⟨x7_1, rfl, HA, HK1, ⟨m1, rfl⟩⟩ := hrel; cases gk with
  | zero => exact absurd HA.out (by simp [impl_firstCode.l0])
  | succ k1 =>
   have H := HA.out; clear HA; simp only [impl_firstCode.l0] at H; by_cases cx0 : x7_1 < (l0.length : Int); rw [if_pos cx0] at H; have cx0b0 : decide (x7_1 < (l0.length : Int)) = true := decide_eq_true cx0; clear cx0; by_cases cx1 : 0 ≤ x7_1; rw [if_pos cx1] at H; have cx1b0 : decide (0 ≤ x7_1) = true := decide_eq_true cx1; clear cx1; by_cases cx2 : x7_1 < (l0.length : Int); rw [if_pos cx2] at H; have cx2b0 : decide (x7_1 < (l0.length : Int)) = true := decide_eq_true cx2; clear cx2; by_cases cx3 : (rd l0 x7_1) = 0; rw [if_pos cx3] at H; have cx3b0 : ((rd l0 x7_1) == 0) = true := beq_iff_eq.mpr cx3; have cx3b1 : ((rd l0 x7_1) != 0) = false := bne_eq_false_iff_eq.mpr cx3; clear cx3; have H' := a_ H; clear H; have m0_0 := t_; have m0_1 := t_; rotate_left; rw [if_neg cx3] at H; have cx3b0 : ((rd l0 x7_1) == 0) = false := beq_eq_false_iff_ne.mpr cx3; have cx3b1 : ((rd l0 x7_1) != 0) = true := bne_iff_ne.mpr cx3; obtain rfl := Option.some.inj H; have m0_0 := t_; have m0_2 := t_; rotate_left
   ·rw [if_neg cx2] at H; exact absurd H y46_
   ·rw [if_neg cx1] at H; exact absurd H y46_
   rw [if_neg cx0] at H; have cx0b0 : decide (x7_1 < (l0.length : Int)) = false := decide_eq_false cx0; clear cx0; obtain rfl := Option.some.inj H; have m0_3 := t_; rotate_left
   all_goals (
    first
    | fail_if_success clear m0_0
    |(clear m0_0; have p9922068 : 0 ≤ (x7_1 : Int) := of_decide_eq_true y6_; have q9922068 : x7_1 < (l0.length : Int) := of_decide_eq_true y6_; obtain ⟨ad9922068, e9922068, hx9922068_0⟩ := Kd.at_int HR0.out x7_1 p9922068 q9922068; cases e9922068; replace p9922068 := eq_true p9922068; replace q9922068 := eq_true q9922068; go_wp2)
    first
    | fail_if_success clear m0_1
    |(clear m0_1; go_roundg k1
      case measure => have := HK1.out; omega
      case rel => exact ⟨(wrap64 (x7_1 + 1)), y5_, H', ⟨by have := HK1.out; omega⟩, y10_⟩)
    first
    | fail_if_success clear m0_2
    |(clear m0_2; go_ret
      exact ⟨y5_, y10_⟩)
    first
    | fail_if_success clear m0_3
    |(clear m0_3; go_wp2
      go_ret
      exact ⟨y5_, y10_⟩))

/-! ### impl_isTwo: function 50 -/
def impl_isTwo.f (a0 : Int) : Option (Bool) := (impl_inRange.f a0 3 9).bind fun t171 => (some t171)
set_option maxHeartbeats 8000000 in
set_option maxRecDepth 100000 in
theorem impl_isTwo.calls (a0 : Int) (r : Bool) (w : World) (h : impl_isTwo.f a0 = some r) :
    Calls Tryd.prog 50 #[.int .i64 a0] w fun e w' => e = .returned (.bool r) ∧ Drawn0 w w' := by
 have H : ((impl_inRange.f a0 3 9).bind fun t171 => (some t171)) = some r := h; clear h; replace H := Option.bind_eq_some_iff.mp H; obtain ⟨t171, A20, H⟩ := H; have A2 := a_ A20; clear A20; obtain rfl := Option.some.inj H; go_enter Tryd.func50, Tryd.ntmps50
 go_wp2_with (first | ((with_reducible refine gate_callee (f := 48) rfl ?_); refine gc_ 48 4 Tryd.func48 #[.int .i64 a0, .int .i64 3, .int .i64 9] ?_; (with_reducible refine (impl_inRange.calls a0 3 9 t171 _ A2.out).mono ?_); rintro e w' ⟨rfl, ⟨nd, rfl⟩⟩; refine ⟨_, rfl, ?_⟩))
 go_ret
 exact ⟨y5_, y10_⟩

end Go.Proofs.YtmppibhdnajjjaaDoor.E
