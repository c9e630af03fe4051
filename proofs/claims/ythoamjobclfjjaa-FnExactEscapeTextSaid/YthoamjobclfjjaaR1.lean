-- Written by a program of this session's own (xp.py) for this seat.
import Derived.Test.YthoamjobclfjjaaRZ
import Derived.Test.YthoamjobclfjjaaRH
import Derived.Test.YthoamjobclfjjaaR0
namespace Go.Proofs.Ythoamjobclfjjaa.R
open Go.RowKit Go.Proofs.YthoamjobclfjjaaW.PrintWords Go.Proofs.YthoamjobclfjjaaW.PrintLast Go.Proofs.YthoamjobclfjjaaW.PrintMore
attribute [local go_sem] Instr.field asAgg
attribute [local go_sem] max2_int min2_int max_two min_two max_three min_three max_four min_four   -- for this text's walks alone
set_option linter.unusedVariables false
set_option linter.unusedSimpArgs false

/-! ### spec_l1Plain: function 11 -/
def spec_l1Plain.f (a0 : Int) : Option (Bool) := if a0 ≥ 32 then (some (decide (a0 ≤ 126))) else (some false)
set_option maxHeartbeats 8000000 in
set_option maxRecDepth 100000 in
theorem spec_l1Plain.calls (a0 : Int) (r : Bool) (w : World) (h : spec_l1Plain.f a0 = some r) :
    Calls Try.prog 11 #[.int .u8 a0] w fun e w' => e = .returned (.bool r) ∧ Drawn0 w w' := by
 have H : (if a0 ≥ 32 then (some (decide (a0 ≤ 126))) else (some false)) = some r := h; clear h; by_cases c2 : a0 ≥ 32
 ·rw [if_pos c2] at H; have c2b0 : decide (32 ≤ a0) = true := decide_eq_true c2; clear c2; obtain rfl := Option.some.inj H; go_enter Try.func11, Try.ntmps11
  go_wp2
  go_ret
  exact ⟨y2_, y1_⟩
 ·rw [if_neg c2] at H; have c2b0 : decide (32 ≤ a0) = false := decide_eq_false c2; clear c2; obtain rfl := Option.some.inj H; go_enter Try.func11, Try.ntmps11
  go_wp2
  go_ret
  exact ⟨y2_, y1_⟩

/-! ### spec_l1Value: function 7 -/
def spec_l1Value.l0 : Nat → ByteArray → Int → Option (Int)
  | 0, _, _ => none
  | k + 1, x0, x3 => if x3 < (x0.size : Int) then (if 0 ≤ x3 then ((spec_l1Plain.f (bt x0 x3)).bind fun t101 => (if t101 = true then (spec_l1Value.l0 k x0 (wrap64 (x3 + 1))) else (some 5))) else (none)) else (some 0)
def spec_l1Value.f (k : Nat) (a0 : ByteArray) : Option (Int) := if (a0.size : Int) > 40 then (some 2) else (spec_l1Value.l0 k a0 0)
theorem spec_l1Value.mono_l : ∀ k, (∀ y0 y1, LeO (spec_l1Value.l0 k y0 y1) (spec_l1Value.l0 (k + 1) y0 y1))
  | 0 => fun _ _ r h => by simp [spec_l1Value.l0] at h
  | k + 1 => by
    have ih0 := spec_l1Value.mono_l k
    · intro y0 y1
      unfold spec_l1Value.l0
      repeat' (with_reducible first | exact ih0 _ _ | exact LeO.refl _ | exact LeO.none _ | refine LeO.ite ?_ ?_ | refine LeO.bind ?_ (fun _ => ?_))
theorem spec_l1Value.mono : ∀ a0 k, LeO (spec_l1Value.f k a0) (spec_l1Value.f (k + 1) a0) := by
  intro a0 k
  have ih0 := spec_l1Value.mono_l k
  unfold spec_l1Value.f
  repeat' (with_reducible first | exact ih0 _ _ | exact LeO.refl _ | exact LeO.none _ | refine LeO.ite ?_ ?_ | refine LeO.bind ?_ (fun _ => ?_))
set_option maxHeartbeats 8000000 in
set_option maxRecDepth 100000 in
theorem spec_l1Value.calls (k : Nat) (a0 : ByteArray) (r : Int) (w : World) (h : spec_l1Value.f k a0 = some r) :
    Calls Try.prog 7 #[.string a0] w fun e w' => e = .returned (.int .i64 r) ∧ Drawn0 w w' := by
 have H : (if (a0.size : Int) > 40 then (some 2) else (spec_l1Value.l0 k a0 0)) = some r := h; clear h; by_cases cx0 : (a0.size : Int) > 40
 ·rw [if_pos cx0] at H; have cx0b0 : decide (40 < (a0.size : Int)) = true := decide_eq_true cx0; have cx0b1 : decide (40 < a0.size) = true := decide_eq_true (by omega); clear cx0; obtain rfl := Option.some.inj H; go_enter Try.func7, Try.ntmps7
  go_wp2
  go_ret
  exact ⟨y2_, y1_⟩
 ·rw [if_neg cx0] at H; have cx0b0 : decide (40 < (a0.size : Int)) = false := decide_eq_false cx0; have cx0b1 : decide (40 < a0.size) = false := decide_eq_false (by omega); clear cx0; have H' := a_ H; clear H; go_enter Try.func7, Try.ntmps7
  go_wp2
  go_loopg [3] k (fun kq v3 w' => ∃ (x3_1 : Int), v3 = .int .i64 x3_1 ∧ Aside0 (spec_l1Value.l0 kq a0 x3_1 = some r) ∧ Aside0 (kq ≤ k) ∧ Drawn0 w w')
  case atStart => exact ⟨(0), y2_, H', ⟨Nat.le_refl _⟩, y1_⟩
  case round =>
   clear H'; (try clear cx0); (try clear cx0b0); (try clear cx0b1); obtain ⟨x3_1, rfl, HA, HK1, ⟨m1, rfl⟩⟩ := hrel; cases gk with
   | zero => exact absurd HA.out (by simp [spec_l1Value.l0])
   | succ k1 =>
    have H := HA.out; clear HA; simp only [spec_l1Value.l0] at H; by_cases cx1 : x3_1 < (a0.size : Int); rw [if_pos cx1] at H; have cx1b0 : decide (x3_1 < (a0.size : Int)) = true := decide_eq_true cx1; clear cx1; by_cases cx2 : 0 ≤ x3_1; rw [if_pos cx2] at H; have cx2b0 : decide (0 ≤ x3_1) = true := decide_eq_true cx2; clear cx2; replace H := Option.bind_eq_some_iff.mp H; obtain ⟨tx3, Ay3, H⟩ := H; have Ax3 := a_ Ay3; clear Ay3; by_cases cx4 : tx3 = true; subst cx4; rw [if_pos rfl] at H; have H' := a_ H; clear H; have m1_0 := t_; have m1_1 := t_; rotate_left; replace cx4 := Bool.eq_false_iff.mpr cx4; subst cx4; rw [if_neg (show ¬ (false = true) by decide)] at H; obtain rfl := Option.some.inj H; have m1_0 := t_; have m1_2 := t_; rotate_left
    ·rw [if_neg cx2] at H; exact absurd H (by simp)
    rw [if_neg cx1] at H; have cx1b0 : decide (x3_1 < (a0.size : Int)) = false := decide_eq_false cx1; clear cx1; obtain rfl := Option.some.inj H; have m1_3 := t_; rotate_left
    all_goals (
     first
     | fail_if_success clear m1_0
     |(clear m1_0; have p9922068 : 0 ≤ (x3_1 : Int) := of_decide_eq_true y5_; have q9922068 : x3_1 < (a0.size : Int) := of_decide_eq_true y5_; have hx9922068 := bt_at a0 x3_1; replace p9922068 := eq_true p9922068; replace q9922068 := eq_true q9922068; go_wp2_with (first | ((with_reducible refine gate_callee (f := 11) rfl ?_); refine gc_ 11 16 Try.func11 #[.int .u8 (bt a0 x3_1)] ?_; (with_reducible refine (spec_l1Plain.calls (bt a0 x3_1) _ _ Ax3.out).mono ?_); rintro e w' ⟨rfl, ⟨nd, rfl⟩⟩; refine ⟨_, rfl, ?_⟩)))
     first
     | fail_if_success clear m1_1
     |(clear m1_1; go_roundg k1
       case measure => have := HK1.out; omega
       case rel => exact ⟨(wrap64 (x3_1 + 1)), y2_, H', ⟨by have := HK1.out; omega⟩, y1_⟩)
     first
     | fail_if_success clear m1_2
     |(clear m1_2; go_ret
       exact ⟨y2_, y1_⟩)
     first
     | fail_if_success clear m1_3
     |(clear m1_3; go_wp2
       go_ret
       exact ⟨y2_, y1_⟩))

/-! ### spec_l1Escape: function 8 -/
def spec_l1Escape.l0 : Nat → ByteArray → ByteArray → Int → Option (ByteArray)
  | 0, _, _, _ => none
  | k + 1, x0, x3, x4 => if x4 < (x0.size : Int) then (if 0 ≤ x4 then (if (bt x0 x4) = 60 then (if x3.size + 4 ≤ 9223372036854775807 then (spec_l1Escape.l0 k x0 (x3 ++ (⟨#[38, 108, 116, 59]⟩ : ByteArray)) (wrap64 (x4 + 1))) else (none)) else (if (bt x0 x4) = 62 then (if x3.size + 4 ≤ 9223372036854775807 then (spec_l1Escape.l0 k x0 (x3 ++ (⟨#[38, 103, 116, 59]⟩ : ByteArray)) (wrap64 (x4 + 1))) else (none)) else (if (bt x0 x4) = 38 then (if x3.size + 5 ≤ 9223372036854775807 then (spec_l1Escape.l0 k x0 (x3 ++ (⟨#[38, 97, 109, 112, 59]⟩ : ByteArray)) (wrap64 (x4 + 1))) else (none)) else (if (bt x0 x4) = 34 then (if x3.size + 6 ≤ 9223372036854775807 then (spec_l1Escape.l0 k x0 (x3 ++ (⟨#[38, 113, 117, 111, 116, 59]⟩ : ByteArray)) (wrap64 (x4 + 1))) else (none)) else (if x4 ≤ (wrap64 (x4 + 1)) then (if (wrap64 (x4 + 1)) ≤ (x0.size : Int) then (if x3.size + (x0.extract (x4 : Int).toNat ((wrap64 (x4 + 1)) : Int).toNat).size ≤ 9223372036854775807 then (spec_l1Escape.l0 k x0 (x3 ++ (x0.extract (x4 : Int).toNat ((wrap64 (x4 + 1)) : Int).toNat)) (wrap64 (x4 + 1))) else (none)) else (none)) else (none)))))) else (none)) else (some x3)
def spec_l1Escape.f (k : Nat) (a0 : ByteArray) : Option (ByteArray) := spec_l1Escape.l0 k a0 (⟨#[]⟩ : ByteArray) 0
theorem spec_l1Escape.mono_l : ∀ k, (∀ y0 y1 y2, LeO (spec_l1Escape.l0 k y0 y1 y2) (spec_l1Escape.l0 (k + 1) y0 y1 y2))
  | 0 => fun _ _ _ r h => by simp [spec_l1Escape.l0] at h
  | k + 1 => by
    have ih0 := spec_l1Escape.mono_l k
    · intro y0 y1 y2
      unfold spec_l1Escape.l0
      repeat' (with_reducible first | exact ih0 _ _ _ | exact LeO.refl _ | exact LeO.none _ | refine LeO.ite ?_ ?_ | refine LeO.bind ?_ (fun _ => ?_))
theorem spec_l1Escape.mono : ∀ a0 k, LeO (spec_l1Escape.f k a0) (spec_l1Escape.f (k + 1) a0) := by
  intro a0 k
  have ih0 := spec_l1Escape.mono_l k
  unfold spec_l1Escape.f
  repeat' (with_reducible first | exact ih0 _ _ _ | exact LeO.refl _ | exact LeO.none _ | refine LeO.ite ?_ ?_ | refine LeO.bind ?_ (fun _ => ?_))
set_option maxHeartbeats 8000000 in
set_option maxRecDepth 100000 in
theorem spec_l1Escape.calls (k : Nat) (a0 : ByteArray) (r : ByteArray) (w : World) (h : spec_l1Escape.f k a0 = some r) :
    Calls Try.prog 8 #[.string a0] w fun e w' => e = .returned (.string r) ∧ Drawn0 w w' := by
 have H : (spec_l1Escape.l0 k a0 (⟨#[]⟩ : ByteArray) 0) = some r := h; clear h; have H' := a_ H; clear H; go_enter Try.func8, Try.ntmps8
 go_wp2
 go_loopg [3, 4] k (fun kq v3 v4 w' => ∃ (x3_1 : ByteArray) (x4_1 : Int), v3 = .string x3_1 ∧ v4 = .int .i64 x4_1 ∧ Aside0 (spec_l1Escape.l0 kq a0 x3_1 x4_1 = some r) ∧ Aside0 (kq ≤ k) ∧ Drawn0 w w')
 case atStart => exact ⟨((⟨#[]⟩ : ByteArray)), (0), y2_, y2_, H', ⟨Nat.le_refl _⟩, y1_⟩
 case round =>
  clear H'; obtain ⟨x3_1, x4_1, rfl, rfl, HA, HK1, ⟨m1, rfl⟩⟩ := hrel; cases gk with
  | zero => exact absurd HA.out (by simp [spec_l1Escape.l0])
  | succ k1 =>
   have H := HA.out; clear HA; simp only [spec_l1Escape.l0] at H; by_cases cx0 : x4_1 < (a0.size : Int); rw [if_pos cx0] at H; have cx0b0 : decide (x4_1 < (a0.size : Int)) = true := decide_eq_true cx0; clear cx0; by_cases cx1 : 0 ≤ x4_1; rw [if_pos cx1] at H; have cx1b0 : decide (0 ≤ x4_1) = true := decide_eq_true cx1; clear cx1; by_cases cx2 : (bt a0 x4_1) = 60; rw [if_pos cx2] at H; have cx2b0 : ((bt a0 x4_1) == 60) = true := beq_iff_eq.mpr cx2; have cx2b1 : ((bt a0 x4_1) != 60) = false := bne_eq_false_iff_eq.mpr cx2; clear cx2; by_cases cx3 : x3_1.size + 4 ≤ 9223372036854775807; rw [if_pos cx3] at H; have cx3b0 := eq_true cx3; have cx3b1 : decide (x3_1.size + 4 ≤ 9223372036854775807) = true := decide_eq_true cx3; try have cx3b2 : (9223372036854775807 < x3_1.size + 4) = False := eq_false (Nat.not_lt.2 cx3)
   have H' := a_ H; clear H; have m0_0 := t_; have m0_1 := t_; rotate_left
   ·rw [if_neg cx3] at H; exact absurd H (by simp)
   rw [if_neg cx2] at H; have cx2b0 : ((bt a0 x4_1) == 60) = false := beq_eq_false_iff_ne.mpr cx2; have cx2b1 : ((bt a0 x4_1) != 60) = true := bne_iff_ne.mpr cx2; by_cases cx3 : (bt a0 x4_1) = 62; rw [if_pos cx3] at H; have cx3b0 : ((bt a0 x4_1) == 62) = true := beq_iff_eq.mpr cx3; have cx3b1 : ((bt a0 x4_1) != 62) = false := bne_eq_false_iff_eq.mpr cx3; clear cx3; by_cases cx4 : x3_1.size + 4 ≤ 9223372036854775807; rw [if_pos cx4] at H; have cx4b0 := eq_true cx4; have cx4b1 : decide (x3_1.size + 4 ≤ 9223372036854775807) = true := decide_eq_true cx4; try have cx4b2 : (9223372036854775807 < x3_1.size + 4) = False := eq_false (Nat.not_lt.2 cx4)
   have H' := a_ H; clear H; have m0_0 := t_; have m0_2 := t_; rotate_left
   ·rw [if_neg cx4] at H; exact absurd H (by simp)
   rw [if_neg cx3] at H; have cx3b0 : ((bt a0 x4_1) == 62) = false := beq_eq_false_iff_ne.mpr cx3; have cx3b1 : ((bt a0 x4_1) != 62) = true := bne_iff_ne.mpr cx3; by_cases cx4 : (bt a0 x4_1) = 38; rw [if_pos cx4] at H; have cx4b0 : ((bt a0 x4_1) == 38) = true := beq_iff_eq.mpr cx4; have cx4b1 : ((bt a0 x4_1) != 38) = false := bne_eq_false_iff_eq.mpr cx4; clear cx4; by_cases cx5 : x3_1.size + 5 ≤ 9223372036854775807; rw [if_pos cx5] at H; have cx5b0 := eq_true cx5; have cx5b1 : decide (x3_1.size + 5 ≤ 9223372036854775807) = true := decide_eq_true cx5; try have cx5b2 : (9223372036854775807 < x3_1.size + 5) = False := eq_false (Nat.not_lt.2 cx5)
   have H' := a_ H; clear H; have m0_0 := t_; have m0_3 := t_; rotate_left
   ·rw [if_neg cx5] at H; exact absurd H (by simp)
   rw [if_neg cx4] at H; have cx4b0 : ((bt a0 x4_1) == 38) = false := beq_eq_false_iff_ne.mpr cx4; have cx4b1 : ((bt a0 x4_1) != 38) = true := bne_iff_ne.mpr cx4; by_cases cx5 : (bt a0 x4_1) = 34; rw [if_pos cx5] at H; have cx5b0 : ((bt a0 x4_1) == 34) = true := beq_iff_eq.mpr cx5; have cx5b1 : ((bt a0 x4_1) != 34) = false := bne_eq_false_iff_eq.mpr cx5; clear cx5; by_cases cx6 : x3_1.size + 6 ≤ 9223372036854775807; rw [if_pos cx6] at H; have cx6b0 := eq_true cx6; have cx6b1 : decide (x3_1.size + 6 ≤ 9223372036854775807) = true := decide_eq_true cx6; try have cx6b2 : (9223372036854775807 < x3_1.size + 6) = False := eq_false (Nat.not_lt.2 cx6)
   have H' := a_ H; clear H; have m0_0 := t_; have m0_4 := t_; rotate_left
   ·rw [if_neg cx6] at H; exact absurd H (by simp)
   rw [if_neg cx5] at H; have cx5b0 : ((bt a0 x4_1) == 34) = false := beq_eq_false_iff_ne.mpr cx5; have cx5b1 : ((bt a0 x4_1) != 34) = true := bne_iff_ne.mpr cx5; have c13b0 := eq_true (of_decide_eq_true y5_ : 0 ≤ x4_1); by_cases cx6 : x4_1 ≤ (wrap64 (x4_1 + 1)); rw [if_pos cx6] at H; have cx6b0 := eq_true cx6; have cx6b1 : decide (x4_1 ≤ (wrap64 (x4_1 + 1))) = true := decide_eq_true cx6; by_cases cx7 : (wrap64 (x4_1 + 1)) ≤ (a0.size : Int); rw [if_pos cx7] at H; have cx7b0 := eq_true cx7; have cx7b1 : decide ((wrap64 (x4_1 + 1)) ≤ (a0.size : Int)) = true := decide_eq_true cx7; by_cases cx8 : x3_1.size + (a0.extract (x4_1 : Int).toNat ((wrap64 (x4_1 + 1)) : Int).toNat).size ≤ 9223372036854775807; rw [if_pos cx8] at H; have cx8b0 := eq_true cx8; have cx8b1 : decide (x3_1.size + (a0.extract (x4_1 : Int).toNat ((wrap64 (x4_1 + 1)) : Int).toNat).size ≤ 9223372036854775807) = true := decide_eq_true cx8; try have cx8b2 : (9223372036854775807 < x3_1.size + (a0.extract (x4_1 : Int).toNat ((wrap64 (x4_1 + 1)) : Int).toNat).size) = False := eq_false (Nat.not_lt.2 cx8)
   try have cx8b3 : (9223372036854775807 < x3_1.size + ((((wrap64 (x4_1 + 1)) : Int).toNat - (x4_1 : Int).toNat))) = False := eq_false (Nat.not_lt.2 (by have h_ := cx8; (try simp only [ByteArray.size_append, ByteArray.size_extract] at h_);  omega))
   have H' := a_ H; clear H; have m0_0 := t_; have m0_5 := t_; rotate_left
   ·rw [if_neg cx8] at H; exact absurd H (by simp)
   ·rw [if_neg cx7] at H; exact absurd H (by simp)
   ·rw [if_neg cx6] at H; exact absurd H (by simp)
   ·rw [if_neg cx1] at H; exact absurd H (by simp)
   rw [if_neg cx0] at H; have cx0b0 : decide (x4_1 < (a0.size : Int)) = false := decide_eq_false cx0; clear cx0; obtain rfl := Option.some.inj H; have m0_6 := t_; rotate_left
   all_goals (
    first
    | fail_if_success clear m0_0
    |(clear m0_0; have p9922068 : 0 ≤ (x4_1 : Int) := of_decide_eq_true y5_; have q9922068 : x4_1 < (a0.size : Int) := of_decide_eq_true y5_; have hx9922068 := bt_at a0 x4_1; replace p9922068 := eq_true p9922068; replace q9922068 := eq_true q9922068; go_wp2
      go_roundg k1
      case measure => have := HK1.out; omega)
    first
    | fail_if_success clear m0_1
    |(clear m0_1
      case rel => exact ⟨(x3_1 ++ (⟨#[38, 108, 116, 59]⟩ : ByteArray)), (wrap64 (x4_1 + 1)), y2_, y2_, H', ⟨by have := HK1.out; omega⟩, y1_⟩)
    first
    | fail_if_success clear m0_2
    |(clear m0_2
      case rel => exact ⟨(x3_1 ++ (⟨#[38, 103, 116, 59]⟩ : ByteArray)), (wrap64 (x4_1 + 1)), y2_, y2_, H', ⟨by have := HK1.out; omega⟩, y1_⟩)
    first
    | fail_if_success clear m0_3
    |(clear m0_3
      case rel => exact ⟨(x3_1 ++ (⟨#[38, 97, 109, 112, 59]⟩ : ByteArray)), (wrap64 (x4_1 + 1)), y2_, y2_, H', ⟨by have := HK1.out; omega⟩, y1_⟩)
    first
    | fail_if_success clear m0_4
    |(clear m0_4
      case rel => exact ⟨(x3_1 ++ (⟨#[38, 113, 117, 111, 116, 59]⟩ : ByteArray)), (wrap64 (x4_1 + 1)), y2_, y2_, H', ⟨by have := HK1.out; omega⟩, y1_⟩)
    first
    | fail_if_success clear m0_5
    |(clear m0_5
      case rel => exact ⟨(x3_1 ++ (a0.extract (x4_1 : Int).toNat ((wrap64 (x4_1 + 1)) : Int).toNat)), (wrap64 (x4_1 + 1)), y2_, y2_, H', ⟨by have := HK1.out; omega⟩, y1_⟩)
    first
    | fail_if_success clear m0_6
    |(clear m0_6; go_wp2
      go_ret
      exact ⟨y2_, y1_⟩))

/-! ### spec_EscapeText: function 4 -/
def spec_EscapeText.f (k : Nat) (a0 : ByteArray) : Option (Int × ByteArray) := (spec_l1Value.f k a0).bind fun t103 => (if t103 = 0 then ((spec_l1Escape.f k a0).bind fun t104 => (some (0, t104))) else (some (t103, (⟨#[]⟩ : ByteArray))))
theorem spec_EscapeText.mono : ∀ a0 k, LeO (spec_EscapeText.f k a0) (spec_EscapeText.f (k + 1) a0) := by
  intro a0 k
  unfold spec_EscapeText.f
  repeat' (with_reducible first | exact spec_l1Escape.mono _ _ | exact spec_l1Value.mono _ _ | exact LeO.refl _ | exact LeO.none _ | refine LeO.ite ?_ ?_ | refine LeO.bind ?_ (fun _ => ?_))
set_option maxHeartbeats 8000000 in
set_option maxRecDepth 100000 in
theorem spec_EscapeText.calls (k : Nat) (a0 : ByteArray) (r1 : Int) (r2 : ByteArray) (w : World) (h : spec_EscapeText.f k a0 = some (r1, r2)) :
    Calls Try.prog 4 #[.string a0] w fun e w' => e = .returned (.agg #[.int .i64 r1, .string r2]) ∧ Below w.heap.size w w' := by
 have hu23 := Try.underlying23; have HB := a_ (Below.refl w.heap.size w); have H : ((spec_l1Value.f k a0).bind fun t103 => (if t103 = 0 then ((spec_l1Escape.f k a0).bind fun t104 => (some (0, t104))) else (some (t103, (⟨#[]⟩ : ByteArray))))) = some (r1, r2) := h; clear h; replace H := Option.bind_eq_some_iff.mp H; obtain ⟨tx0, Ay0, H⟩ := H; have Ax0 := a_ Ay0; clear Ay0; by_cases cx1 : tx0 = 0; rw [if_pos cx1] at H; have cx1b0 : (tx0 == 0) = true := beq_iff_eq.mpr cx1; have cx1b1 : (tx0 != 0) = false := bne_eq_false_iff_eq.mpr cx1; clear cx1; replace H := Option.bind_eq_some_iff.mp H; obtain ⟨tx2, Ay2, H⟩ := H; have Ax2 := a_ Ay2; clear Ay2; simp only [Option.some.injEq, Prod.mk.injEq] at H; obtain ⟨rfl, rfl⟩ := H; have m0_0 := t_; have m0_2 := t_; rotate_left; rw [if_neg cx1] at H; have cx1b0 : (tx0 == 0) = false := beq_eq_false_iff_ne.mpr cx1; have cx1b1 : (tx0 != 0) = true := bne_iff_ne.mpr cx1; simp only [Option.some.injEq, Prod.mk.injEq] at H; obtain ⟨rfl, rfl⟩ := H; have m0_1 := t_; have m0_3 := t_; rotate_left
 all_goals (
  go_enter Try.func4, Try.ntmps4
  go_wp2_with (first | ((with_reducible refine gate_dst (N := 2) rfl ?_); refine box_event zr_ (N := 2) zr_ (cs := #[.int .i64 0, .string (⟨#[]⟩ : ByteArray)]) (t := 23) zs_ ?_; intro gb9005454 hg w9086002 hbox hb; have n0_ := a_ (below_step y0_ hb); have n1_ := a_ (hbox); have n2_ := a_ ((by rw [hg]; exact (below_size y0_) : w.heap.size ≤ gb9005454)); have n3_ := a_ ((by rw [hg]; exact (below_size y0_) : w.heap.size ≤ gb9005454)); clear HB; have HB := n0_; have BK9005454 := n1_; have GW9005454 := n2_; have GE9005454 := n3_; clear n0_ n1_ n2_ n3_; clear hb hbox hg) | (have mkq_ := m0_0; clear mkq_; (with_reducible refine gate_callee (f := 7) rfl ?_); refine gc_ 7 5 Try.func7 #[.string a0] ?_; (with_reducible refine (spec_l1Value.calls k a0 tx0 _ Ax0.out).mono ?_); rintro e w' ⟨rfl, ⟨nd, rfl⟩⟩; refine ⟨_, rfl, ?_⟩; (try (rw [drewN_self w9086002]; generalize hq_ : World.drewN w9086002 _ = w9086002; have n0_ : Aside0 (w9086002.heap[gb9005454]? = some (.cells #[.int .i64 0, .string (⟨#[]⟩ : ByteArray)] 23 (0, 0))) := ⟨by rw [← hq_]; exact y4_⟩; have n1_ : Aside0 (Below w.heap.size w w9086002) := ⟨by rw [← hq_]; exact y3_⟩; clear BK9005454 HB hq_; have BK9005454 := n0_; have HB := n1_; clear n0_ n1_))) | ((with_reducible refine gate_callee (f := 8) rfl ?_); refine gc_ 8 11 Try.func8 #[.string a0] ?_; (with_reducible refine (spec_l1Escape.calls k a0 tx2 _ Ax2.out).mono ?_); rintro e w' ⟨rfl, ⟨nd, rfl⟩⟩; refine ⟨_, rfl, ?_⟩; (try (rw [drewN_self w9086002]; generalize hq_ : World.drewN w9086002 _ = w9086002; have n0_ : Aside0 (w9086002.heap[gb9005454]? = some (.cells #[.int .i64 0, .string (⟨#[]⟩ : ByteArray)] 23 (0, 0))) := ⟨by rw [← hq_]; exact y4_⟩; have n1_ : Aside0 (Below w.heap.size w w9086002) := ⟨by rw [← hq_]; exact y3_⟩; clear BK9005454 HB hq_; have BK9005454 := n0_; have HB := n1_; clear n0_ n1_)); have hcz9179800_0 : w9086002.cell? ⟨gb9005454, 0, none⟩ = some (.int .i64 0) := (blk_cell BK9005454.out 0).trans rfl; have hcz9179800_1 : w9086002.cell? ⟨gb9005454, 1, none⟩ = some (.string (⟨#[]⟩ : ByteArray)) := (blk_cell BK9005454.out 1).trans rfl; have hfz9179800_0 := blk_frozen BK9005454.out 0; have hfz9179800_1 := blk_frozen BK9005454.out 1) | (have mkq_ := m0_1; clear mkq_; (with_reducible refine gate_callee (f := 7) rfl ?_); refine gc_ 7 5 Try.func7 #[.string a0] ?_; (with_reducible refine (spec_l1Value.calls k a0 tx0 _ Ax0.out).mono ?_); rintro e w' ⟨rfl, ⟨nd, rfl⟩⟩; refine ⟨_, rfl, ?_⟩; (try (rw [drewN_self w9086002]; generalize hq_ : World.drewN w9086002 _ = w9086002; have n0_ : Aside0 (w9086002.heap[gb9005454]? = some (.cells #[.int .i64 0, .string (⟨#[]⟩ : ByteArray)] 23 (0, 0))) := ⟨by rw [← hq_]; exact y4_⟩; have n1_ : Aside0 (Below w.heap.size w w9086002) := ⟨by rw [← hq_]; exact y3_⟩; clear BK9005454 HB hq_; have BK9005454 := n0_; have HB := n1_; clear n0_ n1_)); have hcz9179800_0 : w9086002.cell? ⟨gb9005454, 0, none⟩ = some (.int .i64 0) := (blk_cell BK9005454.out 0).trans rfl; have hcz9179800_1 : w9086002.cell? ⟨gb9005454, 1, none⟩ = some (.string (⟨#[]⟩ : ByteArray)) := (blk_cell BK9005454.out 1).trans rfl; have hfz9179800_0 := blk_frozen BK9005454.out 0; have hfz9179800_1 := blk_frozen BK9005454.out 1))
  first
  | fail_if_success clear m0_2
  |(clear m0_2; refine bodyPost_ret (results_cell_row rfl _ _ gb9005454 23 #[.int .i64 0, .string tx2] (0, 0) _ rfl y8_ Try.underlying23 rfl (by kernel_rfl)) rfl ?_)
  first
  | fail_if_success clear m0_3
  |(clear m0_3; refine bodyPost_ret (results_cell_row rfl _ _ gb9005454 23 #[.int .i64 tx0, .string (⟨#[]⟩ : ByteArray)] (0, 0) _ rfl y7_ Try.underlying23 rfl (by kernel_rfl)) rfl ?_)
  exact ⟨y9_, y3_⟩)

/-! ### impl_firstCode: function 12 -/
def impl_firstCode.l0 : Nat → List Int → Int → Int → Option (Int)
  | 0, _, _, _ => none
  | k + 1, x5, x6, x7 => if x7 < x6 then (if 0 ≤ x7 then (if x7 < (x5.length : Int) then (if (rd x5 x7) = 0 then (impl_firstCode.l0 k x5 x6 (wrap64 (x7 + 1))) else (some (rd x5 x7))) else (none)) else (none)) else (some 0)
def impl_firstCode.f (k : Nat) (l0 : List Int) : Option (Int) := impl_firstCode.l0 k l0 (l0.length : Int) 0
theorem impl_firstCode.mono_l : ∀ k, (∀ y0 y1 y2, LeO (impl_firstCode.l0 k y0 y1 y2) (impl_firstCode.l0 (k + 1) y0 y1 y2))
  | 0 => fun _ _ _ r h => by simp [impl_firstCode.l0] at h
  | k + 1 => by
    have ih0 := impl_firstCode.mono_l k
    · intro y0 y1 y2
      unfold impl_firstCode.l0
      repeat' (with_reducible first | exact ih0 _ _ _ | exact LeO.refl _ | exact LeO.none _ | refine LeO.ite ?_ ?_ | refine LeO.bind ?_ (fun _ => ?_))
theorem impl_firstCode.mono : ∀ a0 k, LeO (impl_firstCode.f k a0) (impl_firstCode.f (k + 1) a0) := by
  intro a0 k
  have ih0 := impl_firstCode.mono_l k
  unfold impl_firstCode.f
  repeat' (with_reducible first | exact ih0 _ _ _ | exact LeO.refl _ | exact LeO.none _ | refine LeO.ite ?_ ?_ | refine LeO.bind ?_ (fun _ => ?_))
set_option maxHeartbeats 8000000 in
set_option maxRecDepth 100000 in
theorem impl_firstCode.calls (k : Nat) (A0 : Option Addr) (c0 : Nat) (l0 : List Int) (r : Int) (w : World) (hr0 : Kd.C (Kd.int .i64) w A0 l0.length l0) (hc0 : l0.length ≤ c0) (h : impl_firstCode.f k l0 = some r) :
    Calls Try.prog 12 #[.slice A0 l0.length c0] w fun e w' => e = .returned (.int .i64 r) ∧ Drawn0 w w' := by
 have HR0 := a_ hr0; have HC0 := a_ hc0; clear hr0 hc0; have H : (impl_firstCode.l0 k l0 (l0.length : Int) 0) = some r := h; clear h; have H' := a_ H; clear H; go_enter Try.func12, Try.ntmps12
 go_wp2
 go_loopg [7] k (fun kq v7 w' => ∃ (x7_1 : Int), v7 = .int .i64 x7_1 ∧ Aside0 (impl_firstCode.l0 kq l0 (l0.length : Int) x7_1 = some r) ∧ Aside0 (kq ≤ k) ∧ Drawn0 w w')
 case atStart => exact ⟨(0), y2_, H', ⟨Nat.le_refl _⟩, y1_⟩
 case round =>
  clear H'; obtain ⟨x7_1, rfl, HA, HK1, ⟨m1, rfl⟩⟩ := hrel; cases gk with
  | zero => exact absurd HA.out (by simp [impl_firstCode.l0])
  | succ k1 =>
   have H := HA.out; clear HA; simp only [impl_firstCode.l0] at H; by_cases cx0 : x7_1 < (l0.length : Int); rw [if_pos cx0] at H; have cx0b0 : decide (x7_1 < (l0.length : Int)) = true := decide_eq_true cx0; clear cx0; by_cases cx1 : 0 ≤ x7_1; rw [if_pos cx1] at H; have cx1b0 : decide (0 ≤ x7_1) = true := decide_eq_true cx1; clear cx1; by_cases cx2 : x7_1 < (l0.length : Int); rw [if_pos cx2] at H; have cx2b0 : decide (x7_1 < (l0.length : Int)) = true := decide_eq_true cx2; clear cx2; by_cases cx3 : (rd l0 x7_1) = 0; rw [if_pos cx3] at H; have cx3b0 : ((rd l0 x7_1) == 0) = true := beq_iff_eq.mpr cx3; have cx3b1 : ((rd l0 x7_1) != 0) = false := bne_eq_false_iff_eq.mpr cx3; clear cx3; have H' := a_ H; clear H; have m0_0 := t_; have m0_1 := t_; rotate_left; rw [if_neg cx3] at H; have cx3b0 : ((rd l0 x7_1) == 0) = false := beq_eq_false_iff_ne.mpr cx3; have cx3b1 : ((rd l0 x7_1) != 0) = true := bne_iff_ne.mpr cx3; obtain rfl := Option.some.inj H; have m0_0 := t_; have m0_2 := t_; rotate_left
   ·rw [if_neg cx2] at H; exact absurd H (by simp)
   ·rw [if_neg cx1] at H; exact absurd H (by simp)
   rw [if_neg cx0] at H; have cx0b0 : decide (x7_1 < (l0.length : Int)) = false := decide_eq_false cx0; clear cx0; obtain rfl := Option.some.inj H; have m0_3 := t_; rotate_left
   all_goals (
    first
    | fail_if_success clear m0_0
    |(clear m0_0; have p9922068 : 0 ≤ (x7_1 : Int) := of_decide_eq_true y5_; have q9922068 : x7_1 < (l0.length : Int) := of_decide_eq_true y5_; obtain ⟨ad9922068, e9922068, hx9922068_0⟩ := Kd.at_int HR0.out x7_1 p9922068 q9922068; cases e9922068; replace p9922068 := eq_true p9922068; replace q9922068 := eq_true q9922068; go_wp2)
    first
    | fail_if_success clear m0_1
    |(clear m0_1; go_roundg k1
      case measure => have := HK1.out; omega
      case rel => exact ⟨(wrap64 (x7_1 + 1)), y2_, H', ⟨by have := HK1.out; omega⟩, y1_⟩)
    first
    | fail_if_success clear m0_2
    |(clear m0_2; go_ret
      exact ⟨y2_, y1_⟩)
    first
    | fail_if_success clear m0_3
    |(clear m0_3; go_wp2
      go_ret
      exact ⟨y2_, y1_⟩))

/-! ### impl_codeIf: function 13 -/
def impl_codeIf.f (a0 : Bool) (a1 : Int) : Option (Int) := if a0 = true then (some a1) else (some 0)
set_option maxHeartbeats 8000000 in
set_option maxRecDepth 100000 in
theorem impl_codeIf.calls (a0 : Bool) (a1 : Int) (r : Int) (w : World) (h : impl_codeIf.f a0 a1 = some r) :
    Calls Try.prog 13 #[.bool a0, .int .i64 a1] w fun e w' => e = .returned (.int .i64 r) ∧ Drawn0 w w' := by
 have H : (if a0 = true then (some a1) else (some 0)) = some r := h; clear h; by_cases c3 : a0 = true
 ·subst c3; rw [if_pos rfl] at H; obtain rfl := Option.some.inj H; go_enter Try.func13, Try.ntmps13
  go_wp2
  go_ret
  exact ⟨y2_, y1_⟩
 ·replace c3 := Bool.eq_false_iff.mpr c3; subst c3; rw [if_neg (show ¬ (false = true) by decide)] at H; obtain rfl := Option.some.inj H; go_enter Try.func13, Try.ntmps13
  go_wp2
  go_ret
  exact ⟨y2_, y1_⟩

/-! ### impl_isPrint: function 15 -/
def impl_isPrint.f (a0 : Int) : Option (Bool) := if a0 ≥ 32 then (some (decide (a0 ≤ 126))) else (some false)
set_option maxHeartbeats 8000000 in
set_option maxRecDepth 100000 in
theorem impl_isPrint.calls (a0 : Int) (r : Bool) (w : World) (h : impl_isPrint.f a0 = some r) :
    Calls Try.prog 15 #[.int .u8 a0] w fun e w' => e = .returned (.bool r) ∧ Drawn0 w w' := by
 have H : (if a0 ≥ 32 then (some (decide (a0 ≤ 126))) else (some false)) = some r := h; clear h; by_cases c2 : a0 ≥ 32
 ·rw [if_pos c2] at H; have c2b0 : decide (32 ≤ a0) = true := decide_eq_true c2; clear c2; obtain rfl := Option.some.inj H; go_enter Try.func15, Try.ntmps15
  go_wp2
  go_ret
  exact ⟨y2_, y1_⟩
 ·rw [if_neg c2] at H; have c2b0 : decide (32 ≤ a0) = false := decide_eq_false c2; clear c2; obtain rfl := Option.some.inj H; go_enter Try.func15, Try.ntmps15
  go_wp2
  go_ret
  exact ⟨y2_, y1_⟩

/-! ### impl_areAll__impl_isPrint: function 104 -/
def impl_areAll__impl_isPrint.l0 : Nat → ByteArray → Int → Int → Option (Bool)
  | 0, _, _, _ => none
  | k + 1, x0, x7, x8 => if x8 < x7 then (if 0 ≤ x8 then (if x8 < (x0.size : Int) then ((impl_isPrint.f (bt x0 x8)).bind fun t106 => (if t106 = true then (impl_areAll__impl_isPrint.l0 k x0 x7 (wrap64 (x8 + 1))) else (some false))) else (none)) else (none)) else (some true)
def impl_areAll__impl_isPrint.f (k : Nat) (a0 : ByteArray)  : Option (Bool) := impl_areAll__impl_isPrint.l0 k a0 (a0.size : Int) 0
theorem impl_areAll__impl_isPrint.mono_l : ∀ k, (∀ y0 y1 y2, LeO (impl_areAll__impl_isPrint.l0 k y0 y1 y2) (impl_areAll__impl_isPrint.l0 (k + 1) y0 y1 y2))
  | 0 => fun _ _ _ r h => by simp [impl_areAll__impl_isPrint.l0] at h
  | k + 1 => by
    have ih0 := impl_areAll__impl_isPrint.mono_l k
    · intro y0 y1 y2
      unfold impl_areAll__impl_isPrint.l0
      repeat' (with_reducible first | exact ih0 _ _ _ | exact LeO.refl _ | exact LeO.none _ | refine LeO.ite ?_ ?_ | refine LeO.bind ?_ (fun _ => ?_))
theorem impl_areAll__impl_isPrint.mono : ∀ a0 k, LeO (impl_areAll__impl_isPrint.f k a0) (impl_areAll__impl_isPrint.f (k + 1) a0) := by
  intro a0 k
  have ih0 := impl_areAll__impl_isPrint.mono_l k
  unfold impl_areAll__impl_isPrint.f
  repeat' (with_reducible first | exact ih0 _ _ _ | exact LeO.refl _ | exact LeO.none _ | refine LeO.ite ?_ ?_ | refine LeO.bind ?_ (fun _ => ?_))
set_option maxHeartbeats 8000000 in
set_option maxRecDepth 100000 in
theorem impl_areAll__impl_isPrint.calls (k : Nat) (a0 : ByteArray)  (r : Bool) (w : World) (h : impl_areAll__impl_isPrint.f k a0 = some r) :
    Calls Try.prog 14 #[.string a0, .func (.func 15) #[] #[]] w fun e w' => e = .returned (.bool r) ∧ Drawn0 w w' := by
 have H : (impl_areAll__impl_isPrint.l0 k a0 (a0.size : Int) 0) = some r := h; clear h; have H' := a_ H; clear H; go_enter Try.func14, Try.ntmps14
 go_wp2
 go_loopg [8] k (fun kq v8 w' => ∃ (x8_1 : Int), v8 = .int .i64 x8_1 ∧ Aside0 (impl_areAll__impl_isPrint.l0 kq a0 (a0.size : Int) x8_1 = some r) ∧ Aside0 (kq ≤ k) ∧ Drawn0 w w')
 case atStart => exact ⟨(0), y2_, H', ⟨Nat.le_refl _⟩, y1_⟩
 case round =>
  clear H'; obtain ⟨x8_1, rfl, HA, HK1, ⟨m1, rfl⟩⟩ := hrel; cases gk with
  | zero => exact absurd HA.out (by simp [impl_areAll__impl_isPrint.l0])
  | succ k1 =>
   have H := HA.out; clear HA; simp only [impl_areAll__impl_isPrint.l0] at H; by_cases cx0 : x8_1 < (a0.size : Int); rw [if_pos cx0] at H; have cx0b0 : decide (x8_1 < (a0.size : Int)) = true := decide_eq_true cx0; clear cx0; by_cases cx1 : 0 ≤ x8_1; rw [if_pos cx1] at H; have cx1b0 : decide (0 ≤ x8_1) = true := decide_eq_true cx1; clear cx1; by_cases cx2 : x8_1 < (a0.size : Int); rw [if_pos cx2] at H; have cx2b0 : decide (x8_1 < (a0.size : Int)) = true := decide_eq_true cx2; clear cx2; replace H := Option.bind_eq_some_iff.mp H; obtain ⟨tx3, Ay3, H⟩ := H; have Ax3 := a_ Ay3; clear Ay3; by_cases cx4 : tx3 = true; subst cx4; rw [if_pos rfl] at H; have H' := a_ H; clear H; have m0_0 := t_; have m0_1 := t_; rotate_left; replace cx4 := Bool.eq_false_iff.mpr cx4; subst cx4; rw [if_neg (show ¬ (false = true) by decide)] at H; obtain rfl := Option.some.inj H; have m0_0 := t_; have m0_2 := t_; rotate_left
   ·rw [if_neg cx2] at H; exact absurd H (by simp)
   ·rw [if_neg cx1] at H; exact absurd H (by simp)
   rw [if_neg cx0] at H; have cx0b0 : decide (x8_1 < (a0.size : Int)) = false := decide_eq_false cx0; clear cx0; obtain rfl := Option.some.inj H; have m0_3 := t_; rotate_left
   all_goals (
    first
    | fail_if_success clear m0_0
    |(clear m0_0; have p9922068 : 0 ≤ (x8_1 : Int) := of_decide_eq_true y5_; have q9922068 : x8_1 < (a0.size : Int) := of_decide_eq_true y5_; have hx9922068 := bt_at a0 x8_1; replace p9922068 := eq_true p9922068; replace q9922068 := eq_true q9922068; go_wp2_with (first | ((with_reducible refine gate_dyn (t := 11) rfl ?_); refine goesV_ (some 15) rfl rfl Try.func15 (by kernel_rfl) rfl #[.int .u8 (bt a0 x8_1)] rfl (by (try simp only [List.map_toArray, List.map_cons, List.map_nil]); first | done | rfl | (simp only [List.length_drop, List.length_take]; rfl) | (go_simp; done) | (simp [Act.eval, bne]; done)) ?_; (with_reducible refine (impl_isPrint.calls (bt a0 x8_1) _ _ Ax3.out).mono ?_); rintro e w' ⟨rfl, ⟨nd, rfl⟩⟩; refine ⟨_, rfl, ?_⟩)))
    first
    | fail_if_success clear m0_1
    |(clear m0_1; go_roundg k1
      case measure => have := HK1.out; omega
      case rel => exact ⟨(wrap64 (x8_1 + 1)), y2_, H', ⟨by have := HK1.out; omega⟩, y1_⟩)
    first
    | fail_if_success clear m0_2
    |(clear m0_2; go_ret
      exact ⟨y2_, y1_⟩)
    first
    | fail_if_success clear m0_3
    |(clear m0_3; go_wp2
      go_ret
      exact ⟨y2_, y1_⟩))

/-! ### impl_valueFault: function 9 -/
def impl_valueFault.f (k : Nat) (a0 : ByteArray) : Option (Int) := (impl_codeIf.f (decide ((a0.size : Int) > 40)) 2).bind fun t106 => ((impl_areAll__impl_isPrint.f k a0).bind fun t107 => ((impl_codeIf.f (!t107) 5).bind fun t108 => ((impl_firstCode.f k (([t106, t108] : List Int))).bind fun t112 => (some t112))))
theorem impl_valueFault.mono : ∀ a0 k, LeO (impl_valueFault.f k a0) (impl_valueFault.f (k + 1) a0) := by
  intro a0 k
  unfold impl_valueFault.f
  repeat' (with_reducible first | exact impl_areAll__impl_isPrint.mono _ _ | exact impl_firstCode.mono _ _ | exact LeO.refl _ | exact LeO.none _ | refine LeO.ite ?_ ?_ | refine LeO.bind ?_ (fun _ => ?_))
set_option maxHeartbeats 8000000 in
set_option maxRecDepth 100000 in
theorem impl_valueFault.calls (k : Nat) (a0 : ByteArray) (r : Int) (w : World) (h : impl_valueFault.f k a0 = some r) :
    Calls Try.prog 9 #[.string a0] w fun e w' => e = .returned (.int .i64 r) ∧ Below w.heap.size w w' := by
 have HB := a_ (Below.refl w.heap.size w); have H : ((impl_codeIf.f (decide ((a0.size : Int) > 40)) 2).bind fun t106 => ((impl_areAll__impl_isPrint.f k a0).bind fun t107 => ((impl_codeIf.f (!t107) 5).bind fun t108 => ((impl_firstCode.f k (([t106, t108] : List Int))).bind fun t112 => (some t112))))) = some r := h; clear h; replace H := Option.bind_eq_some_iff.mp H; obtain ⟨t106, A20, H⟩ := H; have A2 := a_ A20; clear A20; replace H := Option.bind_eq_some_iff.mp H; obtain ⟨t107, A30, H⟩ := H; have A3 := a_ A30; clear A30; replace H := Option.bind_eq_some_iff.mp H; obtain ⟨t108, A40, H⟩ := H; have A4 := a_ A40; clear A40; obtain ⟨y109, hy_⟩ : ∃ y_ : List Int, y_ = (([t106, t108] : List Int)) := ⟨_, rfl⟩; replace H : ((impl_firstCode.f k y109).bind fun t112 => (some t112)) = some r := z0_; have Ny109 := a_ hy_; clear hy_; replace H := Option.bind_eq_some_iff.mp H; obtain ⟨t112, A50, H⟩ := H; have A5 := a_ A50; clear A50; obtain rfl := Option.some.inj H; go_enter Try.func9, Try.ntmps9
 go_wp2_with (first | ((with_reducible refine gate_callee (f := 13) rfl ?_); refine gc_ 13 6 Try.func13 #[.bool (decide ((a0.size : Int) > 40)), .int .i64 2] ?_; (with_reducible refine (impl_codeIf.calls (decide ((a0.size : Int) > 40)) 2 t106 _ A2.out).mono ?_); rintro e w' ⟨rfl, ⟨nd, rfl⟩⟩; refine ⟨_, rfl, ?_⟩) | ((with_reducible refine gate_callee (f := 14) rfl ?_); refine gc_ 14 8 Try.func14 #[.string a0, .func (.func 15) #[] #[]] ?_; (with_reducible refine (impl_areAll__impl_isPrint.calls k a0  t107 _ A3.out).mono ?_); rintro e w' ⟨rfl, ⟨nd, rfl⟩⟩; refine ⟨_, rfl, ?_⟩) | ((with_reducible refine gate_callee (f := 13) rfl ?_); refine gc_ 13 10 Try.func13 #[.bool (!t107), .int .i64 5] ?_; (with_reducible refine (impl_codeIf.calls (!t107) 5 t108 _ A4.out).mono ?_); rintro e w' ⟨rfl, ⟨nd, rfl⟩⟩; refine ⟨_, rfl, ?_⟩) | ((with_reducible refine gate_dst (N := 11) rfl ?_); refine Kd.R_lit (Kd.int .i64) _ 2 ?hg (N := 11) ?hd (xs := ([t106, t108] : List Int)) (inner := [.int .i64 t106, .int .i64 t108]) (ok := fun _ => True) (okp := fun _ => True) ?hr ?hp (fun _ hk => hk) trivial (Below.refl _ _) (Nat.le_refl _) (by simp) ?_; (case hd => rfl); (case hg => rfl); (case hr => first | (go_simp; done) | (go_simp; rfl)); (case hp => exact (Reps.one (show Kd.M (Kd.int .i64) _ _ _ t106 [.int .i64 t106] from rfl) (Reps.one (show Kd.M (Kd.int .i64) _ _ _ t108 [.int .i64 t108] from rfl) (Reps.none _ _)))); intro v110 w6 ho7 hb hg_ hnew_; clear hg_ hnew_; (first | rw [← Ny109.out] at ho7 | (simp only [Int.reduceToNat] at ho7; rw [← Ny109.out] at ho7)); have n0_ := a_ (Kd.R_lower ho7 (below_size y0_)); have n1_ := a_ (below_step y0_ hb); clear HB; have HO111 := n0_; have HB := n1_; clear n0_ n1_; clear hb ho7; obtain ⟨Ao8, co8, eo8⟩ := Kd.R_slice HO111.out; subst eo8) | ((with_reducible refine gate_callee (f := 12) rfl ?_); refine gc_ 12 12 Try.func12 #[.slice Ao8 y109.length co8] ?_; (with_reducible refine (impl_firstCode.calls k _ _ y109 t112 _ ?side1 ?side2 A5.out).mono ?_); (case side1 => repeat (first | exact (Kd.R_reads' HO111.out).2.2 | (with_reducible refine Kd.C_alloc ?_ _) | (with_reducible refine Kd.C_drewN ?_ _) | (with_reducible refine Kd.C_drew ?_))); (case side2 => exact (Kd.R_reads' HO111.out).2.1); rintro e w' ⟨rfl, ⟨nd, rfl⟩⟩; refine ⟨_, rfl, ?_⟩))
 go_ret
 exact ⟨y9_, y0_⟩

/-! ### impl_EscapeText: function 5 -/
def impl_EscapeText.f (k : Nat) (a0 : ByteArray) : Option (Int × ByteArray) := (impl_valueFault.f k a0).bind fun t115 => (if t115 = 0 then ((impl_escape.f a0).bind fun t116 => (some (0, t116))) else (some (t115, (⟨#[]⟩ : ByteArray))))
theorem impl_EscapeText.mono : ∀ a0 k, LeO (impl_EscapeText.f k a0) (impl_EscapeText.f (k + 1) a0) := by
  intro a0 k
  unfold impl_EscapeText.f
  repeat' (with_reducible first | exact impl_valueFault.mono _ _ | exact LeO.refl _ | exact LeO.none _ | refine LeO.ite ?_ ?_ | refine LeO.bind ?_ (fun _ => ?_))
set_option maxHeartbeats 8000000 in
set_option maxRecDepth 100000 in
theorem impl_EscapeText.calls (k : Nat) (a0 : ByteArray) (r1 : Int) (r2 : ByteArray) (w : World) (h : impl_EscapeText.f k a0 = some (r1, r2)) :
    Calls Try.prog 5 #[.string a0] w fun e w' => e = .returned (.agg #[.int .i64 r1, .string r2]) ∧ Below w.heap.size w w' := by
 have hu23 := Try.underlying23; have HB := a_ (Below.refl w.heap.size w); have H : ((impl_valueFault.f k a0).bind fun t115 => (if t115 = 0 then ((impl_escape.f a0).bind fun t116 => (some (0, t116))) else (some (t115, (⟨#[]⟩ : ByteArray))))) = some (r1, r2) := h; clear h; replace H := Option.bind_eq_some_iff.mp H; obtain ⟨tx0, Ay0, H⟩ := H; have Ax0 := a_ Ay0; clear Ay0; by_cases cx1 : tx0 = 0; rw [if_pos cx1] at H; have cx1b0 : (tx0 == 0) = true := beq_iff_eq.mpr cx1; have cx1b1 : (tx0 != 0) = false := bne_eq_false_iff_eq.mpr cx1; clear cx1; replace H := Option.bind_eq_some_iff.mp H; obtain ⟨tx2, Ay2, H⟩ := H; have Ax2 := a_ Ay2; clear Ay2; simp only [Option.some.injEq, Prod.mk.injEq] at H; obtain ⟨rfl, rfl⟩ := H; have m0_0 := t_; have m0_2 := t_; rotate_left; rw [if_neg cx1] at H; have cx1b0 : (tx0 == 0) = false := beq_eq_false_iff_ne.mpr cx1; have cx1b1 : (tx0 != 0) = true := bne_iff_ne.mpr cx1; simp only [Option.some.injEq, Prod.mk.injEq] at H; obtain ⟨rfl, rfl⟩ := H; have m0_1 := t_; have m0_3 := t_; rotate_left
 all_goals (
  go_enter Try.func5, Try.ntmps5
  go_wp2_with (first | ((with_reducible refine gate_dst (N := 2) rfl ?_); refine box_event zr_ (N := 2) zr_ (cs := #[.int .i64 0, .string (⟨#[]⟩ : ByteArray)]) (t := 23) zs_ ?_; intro gb9005454 hg w9086002 hbox hb; have n0_ := a_ (below_step y0_ hb); have n1_ := a_ (hbox); have n2_ := a_ ((by rw [hg]; exact (below_size y0_) : w.heap.size ≤ gb9005454)); have n3_ := a_ ((by rw [hg]; exact (below_size y0_) : w.heap.size ≤ gb9005454)); clear HB; have HB := n0_; have BK9005454 := n1_; have GW9005454 := n2_; have GE9005454 := n3_; clear n0_ n1_ n2_ n3_; clear hb hbox hg) | (have mkq_ := m0_0; clear mkq_; (with_reducible refine gate_callee (f := 9) rfl ?_); refine gc_ 9 5 Try.func9 #[.string a0] ?_; (with_reducible refine (impl_valueFault.calls k a0 tx0 _ Ax0.out).mono ?_); rintro e w9909278 ⟨rfl, hb⟩; refine ⟨_, rfl, ?_⟩; have n0_ := a_ (blk_below (g := gb9005454) (o := .cells #[.int .i64 0, .string (⟨#[]⟩ : ByteArray)] 23 (0, 0)) y4_ hb); have n1_ := a_ (below_step y3_ hb); clear BK9005454; clear HB; have BK9005454 := n0_; have HB := n1_; clear n0_ n1_; (try clear hb); (try clear hb9060120); (try clear hk); (try clear hi)) | ((with_reducible refine gate_callee (f := 10) rfl ?_); refine gc_ 10 11 Try.func10 #[.string a0] ?_; (with_reducible refine (impl_escape.calls a0 tx2 _ Ax2.out).mono ?_); rintro e w9230822 ⟨rfl, hb⟩; refine ⟨_, rfl, ?_⟩; have n0_ := a_ (blk_below (g := gb9005454) (o := .cells #[.int .i64 0, .string (⟨#[]⟩ : ByteArray)] 23 (0, 0)) y4_ hb); have n1_ := a_ (below_step y3_ hb); clear BK9005454; clear HB; have BK9005454 := n0_; have HB := n1_; clear n0_ n1_; (try clear hb); (try clear hb9060120); (try clear hk); (try clear hi); have hcz9692561_0 : w9230822.cell? ⟨gb9005454, 0, none⟩ = some (.int .i64 0) := (blk_cell BK9005454.out 0).trans rfl; have hcz9692561_1 : w9230822.cell? ⟨gb9005454, 1, none⟩ = some (.string (⟨#[]⟩ : ByteArray)) := (blk_cell BK9005454.out 1).trans rfl; have hfz9692561_0 := blk_frozen BK9005454.out 0; have hfz9692561_1 := blk_frozen BK9005454.out 1) | (have mkq_ := m0_1; clear mkq_; (with_reducible refine gate_callee (f := 9) rfl ?_); refine gc_ 9 5 Try.func9 #[.string a0] ?_; (with_reducible refine (impl_valueFault.calls k a0 tx0 _ Ax0.out).mono ?_); rintro e w9909278 ⟨rfl, hb⟩; refine ⟨_, rfl, ?_⟩; have n0_ := a_ (blk_below (g := gb9005454) (o := .cells #[.int .i64 0, .string (⟨#[]⟩ : ByteArray)] 23 (0, 0)) y4_ hb); have n1_ := a_ (below_step y3_ hb); clear BK9005454; clear HB; have BK9005454 := n0_; have HB := n1_; clear n0_ n1_; (try clear hb); (try clear hb9060120); (try clear hk); (try clear hi); have hcz9692561_0 : w9909278.cell? ⟨gb9005454, 0, none⟩ = some (.int .i64 0) := (blk_cell BK9005454.out 0).trans rfl; have hcz9692561_1 : w9909278.cell? ⟨gb9005454, 1, none⟩ = some (.string (⟨#[]⟩ : ByteArray)) := (blk_cell BK9005454.out 1).trans rfl; have hfz9692561_0 := blk_frozen BK9005454.out 0; have hfz9692561_1 := blk_frozen BK9005454.out 1))
  first
  | fail_if_success clear m0_2
  |(clear m0_2; refine bodyPost_ret (results_cell_row rfl _ _ gb9005454 23 #[.int .i64 0, .string tx2] (0, 0) _ rfl y8_ Try.underlying23 rfl (by kernel_rfl)) rfl ?_)
  first
  | fail_if_success clear m0_3
  |(clear m0_3; refine bodyPost_ret (results_cell_row rfl _ _ gb9005454 23 #[.int .i64 tx0, .string (⟨#[]⟩ : ByteArray)] (0, 0) _ rfl y7_ Try.underlying23 rfl (by kernel_rfl)) rfl ?_)
  exact ⟨y9_, y3_⟩)

/-! ### laws_eqTextResult: function 6 -/
def laws_eqTextResult.f (a0_0 : Int) (a0_1 : ByteArray) (a1_0 : Int) (a1_1 : ByteArray) : Option (Bool) := if a0_0 = a1_0 then (if a0_1.toList = a1_1.toList then (some true) else (some false)) else (some false)
set_option maxHeartbeats 8000000 in
set_option maxRecDepth 100000 in
theorem laws_eqTextResult.calls (a0_0 : Int) (a0_1 : ByteArray) (a1_0 : Int) (a1_1 : ByteArray) (r : Bool) (w : World) (h : laws_eqTextResult.f a0_0 a0_1 a1_0 a1_1 = some r) :
    Calls Try.prog 6 #[.agg #[.int .i64 a0_0, .string a0_1], .agg #[.int .i64 a1_0, .string a1_1]] w fun e w' => e = .returned (.bool r) ∧ Below w.heap.size w w' := by
 have hu23 := Try.underlying23; have HB := a_ (Below.refl w.heap.size w); have H : (if a0_0 = a1_0 then (if a0_1.toList = a1_1.toList then (some true) else (some false)) else (some false)) = some r := h; clear h; by_cases cx0 : a0_0 = a1_0; rw [if_pos cx0] at H; have cx0b0 : (a0_0 == a1_0) = true := beq_iff_eq.mpr cx0; have cx0b1 : (a0_0 != a1_0) = false := bne_eq_false_iff_eq.mpr cx0; clear cx0; by_cases cx1 : a0_1.toList = a1_1.toList; rw [if_pos cx1] at H; have cx1b0 : (a0_1.toList == a1_1.toList) = true := beq_iff_eq.mpr cx1; have cx1b1 : (a0_1.toList != a1_1.toList) = false := bne_eq_false_iff_eq.mpr cx1; clear cx1; obtain rfl := Option.some.inj H; rotate_left; rw [if_neg cx1] at H; have cx1b0 : (a0_1.toList == a1_1.toList) = false := beq_eq_false_iff_ne.mpr cx1; have cx1b1 : (a0_1.toList != a1_1.toList) = true := bne_iff_ne.mpr cx1; obtain rfl := Option.some.inj H; rotate_left; rw [if_neg cx0] at H; have cx0b0 : (a0_0 == a1_0) = false := beq_eq_false_iff_ne.mpr cx0; have cx0b1 : (a0_0 != a1_0) = true := bne_iff_ne.mpr cx0; obtain rfl := Option.some.inj H; rotate_left
 all_goals (
  go_enter Try.func6, Try.ntmps6
  go_wp2_with (first | ((with_reducible refine gate_dst (N := 2) rfl ?_); refine box_event zr_ (N := 2) zr_ (cs := #[.int .i64 a0_0, .string a0_1]) (t := 23) zs_ ?_; intro gb9983307 hg w9164523 hbox hb; have n0_ := a_ (below_step y0_ hb); have n1_ := a_ (hbox); have n2_ := a_ ((by rw [hg]; exact (below_size y0_) : w.heap.size ≤ gb9983307)); have n3_ := a_ ((by rw [hg]; exact (below_size y0_) : w.heap.size ≤ gb9983307)); clear HB; have HB := n0_; have BK9983307 := n1_; have GW9983307 := n2_; have GE9983307 := n3_; clear n0_ n1_ n2_ n3_; clear hb hbox hg) | ((with_reducible refine gate_dst (N := 3) rfl ?_); refine box_event zr_ (N := 3) zr_ (cs := #[.int .i64 a1_0, .string a1_1]) (t := 23) zs_ ?_; intro gb9495251 hg w9217471 hbox hb; have n0_ := a_ (blk_below (g := gb9983307) (o := .cells #[.int .i64 a0_0, .string a0_1] 23 (0, 0)) y11_ hb); have n1_ := a_ (below_step y10_ hb); have n2_ := a_ (hbox); have n3_ := a_ ((by rw [hg]; exact (below_size y10_) : w.heap.size ≤ gb9495251)); have n4_ := a_ ((by rw [hg]; exact (below_size y10_) : w.heap.size ≤ gb9495251)); have n5_ := a_ ((by rw [hg]; exact Nat.ne_of_lt (blk_lt (g := gb9983307) (o := .cells #[.int .i64 a0_0, .string a0_1] 23 (0, 0)) y11_) : gb9983307 ≠ gb9495251)); have n6_ := a_ ((by rw [hg]; exact Nat.ne_of_gt (blk_lt (g := gb9983307) (o := .cells #[.int .i64 a0_0, .string a0_1] 23 (0, 0)) y11_) : gb9495251 ≠ gb9983307)); clear BK9983307; clear HB; have BK9983307 := n0_; have HB := n1_; have BK9495251 := n2_; have GW9495251 := n3_; have GE9495251 := n4_; have NB117_118 := n5_; have NB118_117 := n6_; clear n0_ n1_ n2_ n3_ n4_ n5_ n6_; clear hb hbox hg; have hnb9351322 := NB117_118.out; have hnc9351322 := NB118_117.out; have hcz9611958_0 : w9217471.cell? ⟨gb9983307, 0, none⟩ = some (.int .i64 a0_0) := (blk_cell BK9983307.out 0).trans rfl; have hcz9611958_1 : w9217471.cell? ⟨gb9983307, 1, none⟩ = some (.string a0_1) := (blk_cell BK9983307.out 1).trans rfl; have hfz9611958_0 := blk_frozen BK9983307.out 0; have hfz9611958_1 := blk_frozen BK9983307.out 1; have hcz9736223_0 : w9217471.cell? ⟨gb9495251, 0, none⟩ = some (.int .i64 a1_0) := (blk_cell BK9495251.out 0).trans rfl; have hcz9736223_1 : w9217471.cell? ⟨gb9495251, 1, none⟩ = some (.string a1_1) := (blk_cell BK9495251.out 1).trans rfl; have hfz9736223_0 := blk_frozen BK9495251.out 0; have hfz9736223_1 := blk_frozen BK9495251.out 1))
  go_ret
  exact ⟨y9_, by repeat (first | (with_reducible first | exact HB.out | apply below_alloc | apply pw_below_drewN | apply below_drew1 | refine below_set ?_ GE9983307.out | refine below_set ?_ GE9495251.out) | exact HB.out)⟩)

/-! ### laws_FnExactEscapeText: function 3 -/
def laws_FnExactEscapeText.f (k : Nat) (a0 : ByteArray) : Option (Bool) := if (a0.size : Int) > 1048576 then (some true) else ((spec_EscapeText.f k a0).bind fun bt119 => ((impl_EscapeText.f k a0).bind fun bt122 => ((laws_eqTextResult.f bt122.1 bt122.2 bt119.1 bt119.2).bind fun t125 => (if t125 = true then (some true) else (some false)))))
theorem laws_FnExactEscapeText.mono : ∀ a0 k, LeO (laws_FnExactEscapeText.f k a0) (laws_FnExactEscapeText.f (k + 1) a0) := by
  intro a0 k
  unfold laws_FnExactEscapeText.f
  repeat' (with_reducible first | exact impl_EscapeText.mono _ _ | exact spec_EscapeText.mono _ _ | exact LeO.refl _ | exact LeO.none _ | refine LeO.ite ?_ ?_ | refine LeO.bind ?_ (fun _ => ?_))
set_option maxHeartbeats 8000000 in
set_option maxRecDepth 100000 in
theorem laws_FnExactEscapeText.calls (k : Nat) (a0 : ByteArray) (r : Bool) (w : World) (h : laws_FnExactEscapeText.f k a0 = some r) :
    Calls Try.prog 3 #[.string a0] w fun e w' => e = .returned (.bool r) ∧ Below w.heap.size w w' := by
 have hu23 := Try.underlying23; have HB := a_ (Below.refl w.heap.size w); have H : (if (a0.size : Int) > 1048576 then (some true) else ((spec_EscapeText.f k a0).bind fun bt119 => ((impl_EscapeText.f k a0).bind fun bt122 => ((laws_eqTextResult.f bt122.1 bt122.2 bt119.1 bt119.2).bind fun t125 => (if t125 = true then (some true) else (some false)))))) = some r := h; clear h; by_cases cx0 : (a0.size : Int) > 1048576; rw [if_pos cx0] at H; have cx0b0 : decide (1048576 < (a0.size : Int)) = true := decide_eq_true cx0; have cx0b1 : decide (1048576 < a0.size) = true := decide_eq_true (by omega); clear cx0; obtain rfl := Option.some.inj H; have m0_0 := t_; rotate_left; rw [if_neg cx0] at H; have cx0b0 : decide (1048576 < (a0.size : Int)) = false := decide_eq_false cx0; have cx0b1 : decide (1048576 < a0.size) = false := decide_eq_false (by omega); clear cx0; replace H := Option.bind_eq_some_iff.mp H; obtain ⟨⟨t119, t120⟩, A30, H⟩ := H; replace H : ((impl_EscapeText.f k a0).bind fun bt122 => ((laws_eqTextResult.f bt122.1 bt122.2 t119 t120).bind fun t125 => (if t125 = true then (some true) else (some false)))) = some r := H; have A3 := a_ A30; clear A30; replace H := Option.bind_eq_some_iff.mp H; obtain ⟨⟨t122, t123⟩, A40, H⟩ := H; replace H : ((laws_eqTextResult.f t122 t123 t119 t120).bind fun t125 => (if t125 = true then (some true) else (some false))) = some r := H; have A4 := a_ A40; clear A40; replace H := Option.bind_eq_some_iff.mp H; obtain ⟨tx1, Ay1, H⟩ := H; have Ax1 := a_ Ay1; clear Ay1; by_cases cx2 : tx1 = true; subst cx2; rw [if_pos rfl] at H; obtain rfl := Option.some.inj H; have m0_1 := t_; rotate_left; replace cx2 := Bool.eq_false_iff.mpr cx2; subst cx2; rw [if_neg (show ¬ (false = true) by decide)] at H; obtain rfl := Option.some.inj H; have m0_1 := t_; rotate_left
 all_goals (
  go_enter Try.func3, Try.ntmps3
  first
  | fail_if_success clear m0_0
  |(clear m0_0; go_wp2
    go_ret
    exact ⟨y9_, y0_⟩)
  first
  | fail_if_success clear m0_1
  |(clear m0_1
    go_wp2_with (first | ((with_reducible refine gate_callee (f := 4) rfl ?_); refine gc_ 4 9 Try.func4 #[.string a0] ?_; (with_reducible refine (spec_EscapeText.calls k a0 t119 t120 _ A3.out).mono ?_); rintro e w9703090 ⟨rfl, hb⟩; refine ⟨_, rfl, ?_⟩; have n0_ := a_ (below_step y0_ hb); clear HB; have HB := n0_; clear n0_; (try clear hb); (try clear hb9521781); (try clear hk); (try clear hi)) | ((with_reducible refine gate_dst (N := 3) rfl ?_); refine box_event zr_ (N := 3) zr_ (cs := #[.int .i64 0, .string (⟨#[]⟩ : ByteArray)]) (t := 23) zs_ ?_; intro gb9052867 hg w9486996 hbox hb; have n0_ := a_ (below_step y0_ hb); have n1_ := a_ (hbox); have n2_ := a_ ((by rw [hg]; exact (below_size y0_) : w.heap.size ≤ gb9052867)); have n3_ := a_ ((by rw [hg]; exact (below_size y0_) : w.heap.size ≤ gb9052867)); clear HB; have HB := n0_; have BK9052867 := n1_; have GW9052867 := n2_; have GE9052867 := n3_; clear n0_ n1_ n2_ n3_; clear hb hbox hg; have hcz9423486_0 : w9486996.cell? ⟨gb9052867, 0, none⟩ = some (.int .i64 0) := (blk_cell BK9052867.out 0).trans rfl; have hcz9423486_1 : w9486996.cell? ⟨gb9052867, 1, none⟩ = some (.string (⟨#[]⟩ : ByteArray)) := (blk_cell BK9052867.out 1).trans rfl; have hfz9423486_0 := blk_frozen BK9052867.out 0; have hfz9423486_1 := blk_frozen BK9052867.out 1) | ((with_reducible refine gate_callee (f := 5) rfl ?_); refine gc_ 5 11 Try.func5 #[.string a0] ?_; (with_reducible refine (impl_EscapeText.calls k a0 t122 t123 _ A4.out).mono ?_); rintro e w9859675 ⟨rfl, hb⟩; refine ⟨_, rfl, ?_⟩; have n0_ := a_ (blk_below (g := gb9052867) (o := .cells #[.int .i64 t119, .string t120] 23 (0, 0)) (by (with_reducible repeat (first | refine blk_drewN ?_ _ | refine blk_drew ?_ | refine blk_alloc ?_ _)); refine blk_put (cs := #[.int .i64 t119, .string (⟨#[]⟩ : ByteArray)]) ?_ 1 _ rfl; (with_reducible repeat (first | refine blk_drewN ?_ _ | refine blk_drew ?_ | refine blk_alloc ?_ _)); refine blk_put (cs := #[.int .i64 0, .string (⟨#[]⟩ : ByteArray)]) ?_ 0 _ rfl; (with_reducible repeat (first | refine blk_drewN ?_ _ | refine blk_drew ?_ | refine blk_alloc ?_ _)); exact BK9052867.out) hb); have n1_ := a_ (below_step y6_ hb); clear BK9052867; clear HB; have BK9052867 := n0_; have HB := n1_; clear n0_ n1_; (try clear hb); (try clear hb9521781); (try clear hk); (try clear hi)) | ((with_reducible refine gate_dst (N := 4) rfl ?_); refine box_event zr_ (N := 4) zr_ (cs := #[.int .i64 0, .string (⟨#[]⟩ : ByteArray)]) (t := 23) zs_ ?_; intro gb9284709 hg w9363938 hbox hb; have n0_ := a_ (blk_below (g := gb9052867) (o := .cells #[.int .i64 t119, .string t120] 23 (0, 0)) y12_ hb); have n1_ := a_ (below_step y6_ hb); have n2_ := a_ (hbox); have n3_ := a_ ((by rw [hg]; exact (below_size y6_) : w.heap.size ≤ gb9284709)); have n4_ := a_ ((by rw [hg]; exact (below_size y6_) : w.heap.size ≤ gb9284709)); have n5_ := a_ ((by rw [hg]; exact Nat.ne_of_lt (blk_lt (g := gb9052867) (o := .cells #[.int .i64 t119, .string t120] 23 (0, 0)) y12_) : gb9052867 ≠ gb9284709)); have n6_ := a_ ((by rw [hg]; exact Nat.ne_of_gt (blk_lt (g := gb9052867) (o := .cells #[.int .i64 t119, .string t120] 23 (0, 0)) y12_) : gb9284709 ≠ gb9052867)); clear BK9052867; clear HB; have BK9052867 := n0_; have HB := n1_; have BK9284709 := n2_; have GW9284709 := n3_; have GE9284709 := n4_; have NB121_124 := n5_; have NB124_121 := n6_; clear n0_ n1_ n2_ n3_ n4_ n5_ n6_; clear hb hbox hg; have hnb9519352 := NB124_121.out; have hnc9519352 := NB121_124.out; have hcz9888119_0 : w9363938.cell? ⟨gb9284709, 0, none⟩ = some (.int .i64 0) := (blk_cell BK9284709.out 0).trans rfl; have hcz9888119_1 : w9363938.cell? ⟨gb9284709, 1, none⟩ = some (.string (⟨#[]⟩ : ByteArray)) := (blk_cell BK9284709.out 1).trans rfl; have hfz9888119_0 := blk_frozen BK9284709.out 0; have hfz9888119_1 := blk_frozen BK9284709.out 1; have hcz9698314_0 : w9363938.cell? ⟨gb9052867, 0, none⟩ = some (.int .i64 t119) := (blk_cell BK9052867.out 0).trans rfl; have hcz9698314_1 : w9363938.cell? ⟨gb9052867, 1, none⟩ = some (.string t120) := (blk_cell BK9052867.out 1).trans rfl; have hfz9698314_0 := blk_frozen BK9052867.out 0; have hfz9698314_1 := blk_frozen BK9052867.out 1) | ((with_reducible refine gate_callee (f := 6) rfl ?_); refine gc_ 6 14 Try.func6 #[.agg #[.int .i64 t122, .string t123], .agg #[.int .i64 t119, .string t120]] ?_; (with_reducible refine (laws_eqTextResult.calls t122 t123 t119 t120 _ _ Ax1.out).mono ?_); rintro e w9651530 ⟨rfl, hb⟩; refine ⟨_, rfl, ?_⟩; have n0_ := a_ (blk_below (g := gb9052867) (o := .cells #[.int .i64 t119, .string t120] 23 (0, 0)) (by (with_reducible repeat (first | refine blk_drewN ?_ _ | refine blk_drew ?_ | refine blk_alloc ?_ _)); refine blk_far ?_ NB121_124.out _; (with_reducible repeat (first | refine blk_drewN ?_ _ | refine blk_drew ?_ | refine blk_alloc ?_ _)); refine blk_far ?_ NB121_124.out _; (with_reducible repeat (first | refine blk_drewN ?_ _ | refine blk_drew ?_ | refine blk_alloc ?_ _)); exact BK9052867.out) hb); have n1_ := a_ (blk_below (g := gb9284709) (o := .cells #[.int .i64 t122, .string t123] 23 (0, 0)) (by (with_reducible repeat (first | refine blk_drewN ?_ _ | refine blk_drew ?_ | refine blk_alloc ?_ _)); refine blk_put (cs := #[.int .i64 t122, .string (⟨#[]⟩ : ByteArray)]) ?_ 1 _ rfl; (with_reducible repeat (first | refine blk_drewN ?_ _ | refine blk_drew ?_ | refine blk_alloc ?_ _)); refine blk_put (cs := #[.int .i64 0, .string (⟨#[]⟩ : ByteArray)]) ?_ 0 _ rfl; (with_reducible repeat (first | refine blk_drewN ?_ _ | refine blk_drew ?_ | refine blk_alloc ?_ _)); exact BK9284709.out) hb); have n2_ := a_ (below_step y13_ hb); clear BK9052867; clear BK9284709; clear HB; have BK9052867 := n0_; have BK9284709 := n1_; have HB := n2_; clear n0_ n1_ n2_; (try clear hb); (try clear hb9521781); (try clear hk); (try clear hi)))
    go_ret
    exact ⟨y9_, y13_⟩))

/-- THE ONE PURE STATEMENT of laws_FnExactEscapeText: yours. -/
def laws_FnExactEscapeText.Pure : Prop := ∀ (a0 : ByteArray), a0.size ≤ 140737488351232 → ∃ k, laws_FnExactEscapeText.f k a0 = some true
theorem laws_FnExactEscapeText.walk (P : laws_FnExactEscapeText.Pure) (a0 : ByteArray) (w : World) (w0 : a0.size ≤ 140737488351232) :
    Calls Try.prog 3 #[.string a0] w fun e w' => e = .returned (.bool true) ∧ Below w.heap.size w w' := by
  obtain ⟨k, h⟩ := P a0 w0
  refine (laws_FnExactEscapeText.calls k a0 true w h).mono ?_
  rintro e w' ⟨rfl, hd⟩
  exact ⟨rfl, hd⟩

end Go.Proofs.Ythoamjobclfjjaa.R
