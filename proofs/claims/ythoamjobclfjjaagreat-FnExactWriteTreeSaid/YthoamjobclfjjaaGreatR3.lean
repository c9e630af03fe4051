-- Written by a program of this session's own (xp.py) for this seat.
import Derived.Test.YthoamjobclfjjaaGreatRZ
import Derived.Test.YthoamjobclfjjaaGreatR0
import Derived.Test.YthoamjobclfjjaaGreatR2
namespace Go.Proofs.YthoamjobclfjjaaGreat.R
open Go.RowKit Go.Proofs.YthoamjobclfjjaaGreatW.PrintWords Go.Proofs.YthoamjobclfjjaaGreatW.PrintLast Go.Proofs.YthoamjobclfjjaaGreatW.PrintMore
attribute [local go_sem] Instr.field asAgg
attribute [local go_sem] max2_int min2_int max_two min_two max_three min_three max_four min_four   -- for this text's walks alone
set_option linter.unusedVariables false
set_option linter.unusedSimpArgs false

/-! ### spec_l2Write: function 13 -/
mutual
def spec_l2Write.l0 : Nat → List (S40) → Int → ByteArray → List Int → Int → Option (ByteArray)
  | 0, _, _, _, _, _ => none
  | k + 1, x0, x1, x6, x7, x8 => if x8 < (x7.length : Int) then (if 0 ≤ x8 then ((spec_l2Write.f k x0 (rd x7 x8)).bind fun t155 => (if x6.size + t155.size ≤ 9223372036854775807 then (spec_l2Write.l0 k x0 x1 (x6 ++ t155) x7 (wrap64 (x8 + 1))) else (none))) else (none)) else (if x6.size + 2 ≤ 9223372036854775807 then (if 0 ≤ x1 then (if x1 < (x0.length : Int) then (if (x6 ++ (⟨#[60, 47]⟩ : ByteArray)).size + ((rd_T40 x0 x1).f0).size ≤ 9223372036854775807 then (if ((x6 ++ (⟨#[60, 47]⟩ : ByteArray)) ++ ((rd_T40 x0 x1).f0)).size + 1 ≤ 9223372036854775807 then (some (((x6 ++ (⟨#[60, 47]⟩ : ByteArray)) ++ ((rd_T40 x0 x1).f0)) ++ (⟨#[62]⟩ : ByteArray))) else (none)) else (none)) else (none)) else (none)) else (none))
def spec_l2Write.f : Nat → List (S40) → Int → Option (ByteArray)
  | 0, _, _ => none
  | k + 1, l0, a1 => if 0 ≤ a1 then (if a1 < (l0.length : Int) then ((spec_l2Mark.f k l0 a1).bind fun t150 => ((spec_l2Kids.f k l0 a1).bind fun t151 => (if (t151.length : Int) = 0 then (some t150) else (spec_l2Write.l0 k l0 a1 t150 t151 0)))) else (none)) else (none)
end
theorem spec_l2Write.mono_l : ∀ k, (∀ y0 y1, LeO (spec_l2Write.f k y0 y1) (spec_l2Write.f (k + 1) y0 y1)) ∧ (∀ y0 y1 y2 y3 y4, LeO (spec_l2Write.l0 k y0 y1 y2 y3 y4) (spec_l2Write.l0 (k + 1) y0 y1 y2 y3 y4))
  | 0 => ⟨fun _ _ r h => by simp [spec_l2Write.f] at h, fun _ _ _ _ _ r h => by simp [spec_l2Write.l0] at h⟩
  | k + 1 => by
    obtain ⟨ih0, ih1⟩ := spec_l2Write.mono_l k
    refine ⟨?_, ?_⟩
    · intro y0 y1
      unfold spec_l2Write.f
      repeat' (with_reducible first | exact ih0 _ _ | exact ih1 _ _ _ _ _ | exact spec_l2Kids.mono _ _ _ | exact spec_l2Mark.mono _ _ _ | exact LeO.refl _ | exact LeO.none _ | refine LeO.ite ?_ ?_ | refine LeO.bind ?_ (fun _ => ?_))
    · intro y0 y1 y2 y3 y4
      unfold spec_l2Write.l0
      repeat' (with_reducible first | exact ih0 _ _ | exact ih1 _ _ _ _ _ | exact spec_l2Kids.mono _ _ _ | exact spec_l2Mark.mono _ _ _ | exact LeO.refl _ | exact LeO.none _ | refine LeO.ite ?_ ?_ | refine LeO.bind ?_ (fun _ => ?_))
theorem spec_l2Write.mono : ∀ a0 a1 k, LeO (spec_l2Write.f k a0 a1) (spec_l2Write.f (k + 1) a0 a1) := by
  intro a0 a1 k
  obtain ⟨ih0, ih1⟩ := spec_l2Write.mono_l k
  exact ih0 a0 a1
set_option maxHeartbeats 8000000 in
set_option maxRecDepth 100000 in
theorem spec_l2Write.calls (k : Nat) : ∀ (A0 : Option Addr) (c0 : Nat) (l0 : List (S40)) (a1 : Int) (r : ByteArray) (w : World) (hr0 : Kd.C k40 w A0 l0.length l0) (hc0 : l0.length ≤ c0) (h : spec_l2Write.f k l0 a1 = some r),
    Calls Tryz.prog 13 #[.slice A0 l0.length c0, .int .i64 a1] w fun e w' => e = .returned (.string r) ∧ Below w.heap.size w w' := by
 induction k using Nat.strongRecOn with
 | _ k ih =>
 intro A0 c0 l0 a1 r w hr0 hc0 h; cases k with
 | zero => exact absurd h (by simp [spec_l2Write.f])
 | succ k =>
 simp only [spec_l2Write.f] at h; have HR0 := a_ hr0; have HC0 := a_ hc0; clear hr0 hc0; have HB := a_ (Below.refl w.heap.size w); have H : (if 0 ≤ a1 then (if a1 < (l0.length : Int) then ((spec_l2Mark.f k l0 a1).bind fun t150 => ((spec_l2Kids.f k l0 a1).bind fun t151 => (if (t151.length : Int) = 0 then (some t150) else (spec_l2Write.l0 k l0 a1 t150 t151 0)))) else (none)) else (none)) = some r := h; clear h; by_cases cx0 : 0 ≤ a1; rw [if_pos cx0] at H; have cx0b0 : decide (0 ≤ a1) = true := decide_eq_true cx0; clear cx0; by_cases cx1 : a1 < (l0.length : Int); rw [if_pos cx1] at H; have cx1b0 : decide (a1 < (l0.length : Int)) = true := decide_eq_true cx1; clear cx1; replace H := Option.bind_eq_some_iff.mp H; obtain ⟨tx2, Ay2, H⟩ := H; have Ax2 := a_ Ay2; clear Ay2; replace H := Option.bind_eq_some_iff.mp H; obtain ⟨tx3, Ay3, H⟩ := H; have Ax3 := a_ Ay3; clear Ay3; by_cases cx4 : (tx3.length : Int) = 0; rw [if_pos cx4] at H; have cx4b0 : ((tx3.length : Int) == 0) = true := beq_iff_eq.mpr cx4; have cx4b1 : ((tx3.length : Int) != 0) = false := bne_eq_false_iff_eq.mpr cx4; clear cx4; obtain rfl := Option.some.inj H; have m0_0 := t_; rotate_left; rw [if_neg cx4] at H; have cx4b0 : ((tx3.length : Int) == 0) = false := beq_eq_false_iff_ne.mpr cx4; have cx4b1 : ((tx3.length : Int) != 0) = true := bne_iff_ne.mpr cx4; have cx4b2 : ¬ (tx3 = []) := fun h_ => cx4 (by rw [h_]; rfl); have H' := a_ H; clear H; have m0_1 := t_; rotate_left
 ·rw [if_neg cx1] at H; exact absurd H y50_
 ·rw [if_neg cx0] at H; exact absurd H y50_
 all_goals (
  have p9922068 : 0 ≤ (a1 : Int) := of_decide_eq_true y3_; have q9922068 : a1 < (l0.length : Int) := of_decide_eq_true y3_; obtain ⟨ad9922068, A149_2, c149_2, e9922068, hx9922068_0, hx9922068_1, hx9922068_2, hl9922068_2, hi149_2⟩ := at_T40 HR0.out a1 p9922068 q9922068; cases e9922068; have HR149_2 := a_ hi149_2; have HC149_2 := a_ hl9922068_2; clear hi149_2 hl9922068_2; replace p9922068 := eq_true p9922068; replace q9922068 := eq_true q9922068; go_enter Tryz.func13, Tryz.ntmps13
  go_wp2_with (first | ((with_reducible refine gate_callee (f := 12) rfl ?_); refine gc_ 12 14 Tryz.func12 #[.slice (some ad9922068) l0.length c0, .int .i64 a1] ?_; (with_reducible refine (spec_l2Mark.calls k _ _ l0 a1 tx2 _ ?side1 ?side2 Ax2.out).mono ?_); (case side1 => repeat (first | exact HR0.out | (with_reducible refine Kd.C_alloc ?_ _) | (with_reducible refine Kd.C_drewN ?_ _) | (with_reducible refine Kd.C_drew ?_))); (case side2 => exact HC0.out); rintro e w9276445 ⟨rfl, hb⟩; refine ⟨_, rfl, ?_⟩; have n0_ := a_ (below_step y0_ hb); clear HB; have HB := n0_; clear n0_; (try clear hb); (try clear hb9965724); (try clear hk); (try clear hi)) | ((with_reducible refine gate_callee (f := 26) rfl ?_); refine gc_ 26 17 Tryz.func26 #[.slice (some ad9922068) l0.length c0, .int .i64 a1] ?_; (with_reducible refine (spec_l2Kids.calls k _ _ l0 a1 tx3 _ ?side1 ?side2 Ax3.out).mono ?_); (case side1 => repeat (first | exact (Kd.C_below HR0.out HB.out) | (with_reducible refine Kd.C_alloc ?_ _) | (with_reducible refine Kd.C_drewN ?_ _) | (with_reducible refine Kd.C_drew ?_))); (case side2 => exact HC0.out); rintro e w9279580 ⟨v9006910, rfl, ho0, hb⟩; refine ⟨_, rfl, ?_⟩; have n0_ := a_ (Kd.R_lower ho0 (below_size y0_)); have n1_ := a_ (below_step y0_ hb); clear HB; have HO9054224 := n0_; have HB := n1_; clear n0_ n1_; (try clear hb); (try clear hb9965724); (try clear hk); (try clear hi); (try clear ho0); obtain ⟨Ao9204073, co9204073, eo9204073⟩ := Kd.R_slice HO9054224.out; subst eo9204073))
  first
  | fail_if_success clear m0_0
  |(clear m0_0; go_ret
    exact ⟨y6_, y0_⟩)
  first
  | fail_if_success clear m0_1
  |(clear m0_1; go_loopg [6, 8] k (fun kq v9673485 v9250880 w' => ∃ (x6_1 : ByteArray) (x8_1 : Int), v9673485 = .string x6_1 ∧ v9250880 = .int .i64 x8_1 ∧ Aside0 (spec_l2Write.l0 kq l0 a1 x6_1 tx3 x8_1 = some r) ∧ Aside0 (kq ≤ k) ∧ Aside0 (Kd.R (Kd.int .i64) 2 w' w.heap.size (fun _ => True) (.slice Ao9204073 tx3.length co9204073) tx3) ∧ Aside0 (Below w.heap.size w w'))
    case atStart => exact ⟨(tx2), (0), y2_, y2_, H', ⟨Nat.le_refl _⟩, ⟨by (with_reducible repeat (first | apply Kd.R_alloc | apply Kd.R_drewN | apply Kd.R_drew)); exact HO9054224.out⟩, ⟨y0_⟩⟩
    case round =>
     clear H'; (try clear cx0); (try clear cx0b0); (try clear cx1); (try clear cx1b0); (try clear cx4); (try clear cx4b0); (try clear cx4b1); (try clear cx4b2); (try clear hx9922068_0); (try clear hx9922068_1); (try clear hx9922068_2); (try clear p9922068); (try clear q9922068); obtain ⟨x6_1, x8_1, rfl, rfl, HA, HK9550573, HO_7, HB⟩ := hrel; cases gk with
     | zero => exact absurd HA.out (by simp [spec_l2Write.l0])
     | succ k1 =>
      have H := HA.out; clear HA; simp only [spec_l2Write.l0] at H; by_cases cx5 : x8_1 < (tx3.length : Int); rw [if_pos cx5] at H; have cx5b0 : decide (x8_1 < (tx3.length : Int)) = true := decide_eq_true cx5; clear cx5; by_cases cx6 : 0 ≤ x8_1; rw [if_pos cx6] at H; have cx6b0 : decide (0 ≤ x8_1) = true := decide_eq_true cx6; clear cx6; replace H := Option.bind_eq_some_iff.mp H; obtain ⟨tx7, Ay7, H⟩ := H; have Ax7 := a_ Ay7; clear Ay7; by_cases cx8 : x6_1.size + tx7.size ≤ 9223372036854775807; rw [if_pos cx8] at H; have cx8b0 := eq_true cx8; have cx8b1 : decide (x6_1.size + tx7.size ≤ 9223372036854775807) = true := decide_eq_true cx8; try have cx8b2 : (9223372036854775807 < x6_1.size + tx7.size) = False := eq_false (Nat.not_lt.2 cx8)
      have H' := a_ H; clear H; have m1_0 := t_; rotate_left
      ·rw [if_neg cx8] at H; exact absurd H y50_
      ·rw [if_neg cx6] at H; exact absurd H y50_
      rw [if_neg cx5] at H; have cx5b0 : decide (x8_1 < (tx3.length : Int)) = false := decide_eq_false cx5; clear cx5; by_cases cx6 : x6_1.size + 2 ≤ 9223372036854775807; rw [if_pos cx6] at H; have cx6b0 := eq_true cx6; have cx6b1 : decide (x6_1.size + 2 ≤ 9223372036854775807) = true := decide_eq_true cx6; try have cx6b2 : (9223372036854775807 < x6_1.size + 2) = False := eq_false (Nat.not_lt.2 cx6)
      by_cases cx7 : 0 ≤ a1; rw [if_pos cx7] at H; have cx7b0 : decide (0 ≤ a1) = true := decide_eq_true cx7; clear cx7; by_cases cx8 : a1 < (l0.length : Int); rw [if_pos cx8] at H; have cx8b0 : decide (a1 < (l0.length : Int)) = true := decide_eq_true cx8; clear cx8; by_cases cx9 : (x6_1 ++ (⟨#[60, 47]⟩ : ByteArray)).size + ((rd_T40 l0 a1).f0).size ≤ 9223372036854775807; rw [if_pos cx9] at H; have cx9b0 := eq_true cx9; have cx9b1 : decide ((x6_1 ++ (⟨#[60, 47]⟩ : ByteArray)).size + ((rd_T40 l0 a1).f0).size ≤ 9223372036854775807) = true := decide_eq_true cx9; try have cx9b2 : (9223372036854775807 < (x6_1 ++ (⟨#[60, 47]⟩ : ByteArray)).size + ((rd_T40 l0 a1).f0).size) = False := eq_false (Nat.not_lt.2 cx9)
      try have cx9b3 : (9223372036854775807 < x6_1.size + 2 + ((rd_T40 l0 a1).f0).size) = False := eq_false (Nat.not_lt.2 (by have h_ := cx9; (try simp only [ByteArray.size_append, ByteArray.size_extract] at h_); have s0_ : (⟨#[60, 47]⟩ : ByteArray).size = 2 := rfl;  omega))
      by_cases cx10 : ((x6_1 ++ (⟨#[60, 47]⟩ : ByteArray)) ++ ((rd_T40 l0 a1).f0)).size + 1 ≤ 9223372036854775807; rw [if_pos cx10] at H; have cx10b0 := eq_true cx10; have cx10b1 : decide (((x6_1 ++ (⟨#[60, 47]⟩ : ByteArray)) ++ ((rd_T40 l0 a1).f0)).size + 1 ≤ 9223372036854775807) = true := decide_eq_true cx10; try have cx10b2 : (9223372036854775807 < ((x6_1 ++ (⟨#[60, 47]⟩ : ByteArray)) ++ ((rd_T40 l0 a1).f0)).size + 1) = False := eq_false (Nat.not_lt.2 cx10)
      try have cx10b3 : (9223372036854775807 < x6_1.size + 2 + ((rd_T40 l0 a1).f0).size + 1) = False := eq_false (Nat.not_lt.2 (by have h_ := cx10; (try simp only [ByteArray.size_append, ByteArray.size_extract] at h_); have s0_ : (⟨#[60, 47]⟩ : ByteArray).size = 2 := rfl;  omega))
      obtain rfl := Option.some.inj H; have m1_1 := t_; rotate_left
      ·rw [if_neg cx10] at H; exact absurd H y50_
      ·rw [if_neg cx9] at H; exact absurd H y50_
      ·rw [if_neg cx8] at H; exact absurd H y50_
      ·rw [if_neg cx7] at H; exact absurd H y50_
      ·rw [if_neg cx6] at H; exact absurd H y50_
      all_goals (
       first
       | fail_if_success clear m1_0
       |(clear m1_0; have p9548309 : 0 ≤ (x8_1 : Int) := of_decide_eq_true y3_; have q9548309 : x8_1 < (tx3.length : Int) := of_decide_eq_true y3_; obtain ⟨ad9548309, e9548309, hx9548309_0⟩ := Kd.at_int (Kd.R_reads' HO_7.out).2.2 x8_1 p9548309 q9548309; cases e9548309; replace p9548309 := eq_true p9548309; replace q9548309 := eq_true q9548309; go_wp2_with (first | ((with_reducible refine gate_callee (f := 13) rfl ?_); refine gc_ 13 34 Tryz.func13 #[.slice (some ad9922068) l0.length c0, .int .i64 (rd tx3 x8_1)] ?_; (with_reducible refine (ih k1 (by have := HK9550573.out; omega) _ _ l0 (rd tx3 x8_1) tx7 _ ?side1 ?side2 Ax7.out).mono ?_); (case side1 => repeat (first | exact (Kd.C_below HR0.out HB.out) | (with_reducible refine Kd.C_alloc ?_ _) | (with_reducible refine Kd.C_drewN ?_ _) | (with_reducible refine Kd.C_drew ?_))); (case side2 => exact HC0.out); rintro e w9769239 ⟨rfl, hb⟩; refine ⟨_, rfl, ?_⟩; have n0_ := a_ (Kd.R_below (by (with_reducible repeat (first | apply Kd.R_alloc | apply Kd.R_drewN | apply Kd.R_drew)); exact HO_7.out) hb); have n1_ := a_ (below_step y0_ hb); clear HO_7; clear HB; have HO_7 := n0_; have HB := n1_; clear n0_ n1_; (try clear hb); (try clear hb9965724); (try clear hk); (try clear hi)))
         go_roundg k1
         case measure => have := HK9550573.out; omega
         case rel => exact ⟨(x6_1 ++ tx7), (wrap64 (x8_1 + 1)), y2_, y2_, H', ⟨by have := HK9550573.out; omega⟩, ⟨by (with_reducible repeat (first | apply Kd.R_alloc | apply Kd.R_drewN | apply Kd.R_drew)); exact HO_7.out⟩, ⟨y0_⟩⟩)
       first
       | fail_if_success clear m1_1
       |(clear m1_1; have p9548309 : 0 ≤ (a1 : Int) := of_decide_eq_true y3_; have q9548309 : a1 < (l0.length : Int) := of_decide_eq_true y3_; (try clear hx9922068_0 hx9922068_1 hx9922068_2); obtain ⟨ad9548309, A156_2, c156_2, e9548309, hx9548309_0, hx9548309_1, hx9548309_2, hl9548309_2, hi156_2⟩ := at_T40 HR0.out a1 p9548309 q9548309; obtain rfl : ad9922068 = ad9548309 := (by injection e9548309); replace hx9548309_0 := cT_ HB.out hx9548309_0; replace hx9548309_1 := cT_ HB.out hx9548309_1; replace hx9548309_2 := cT_ HB.out hx9548309_2; have HR156_2 := a_ hi156_2; have HC156_2 := a_ hl9548309_2; clear hi156_2 hl9548309_2; replace p9548309 := eq_true p9548309; replace q9548309 := eq_true q9548309; go_wp2
         go_ret
         exact ⟨y6_, y0_⟩))))

/-! ### spec_WriteTree: function 5 -/
def spec_WriteTree.l0 : Nat → List (S40) → Int → Option (Int × ByteArray)
  | 0, _, _ => none
  | k + 1, x0, x4 => if x4 < (x0.length : Int) then ((spec_l2Mark.f k x0 x4).bind fun t159 => (if (t159.size : Int) > 600 then (some (2, (⟨#[]⟩ : ByteArray))) else (spec_WriteTree.l0 k x0 (wrap64 (x4 + 1))))) else ((spec_l2Write.f k x0 0).bind fun t160 => (if (t160.size : Int) > 1500 then (some (2, (⟨#[]⟩ : ByteArray))) else (some (0, t160))))
def spec_WriteTree.f (k : Nat) (l0 : List (S40)) : Option (Int × ByteArray) := (spec_l2Fault.f k l0).bind fun t158 => (if t158 = 0 then (spec_WriteTree.l0 k l0 0) else (some (t158, (⟨#[]⟩ : ByteArray))))
theorem spec_WriteTree.mono_l : ∀ k, (∀ y0 y1, LeO (spec_WriteTree.l0 k y0 y1) (spec_WriteTree.l0 (k + 1) y0 y1))
  | 0 => fun _ _ r h => by simp [spec_WriteTree.l0] at h
  | k + 1 => by
    have ih0 := spec_WriteTree.mono_l k
    · intro y0 y1
      unfold spec_WriteTree.l0
      repeat' (with_reducible first | exact ih0 _ _ | exact spec_l2Fault.mono _ _ | exact spec_l2Mark.mono _ _ _ | exact spec_l2Write.mono _ _ _ | exact LeO.refl _ | exact LeO.none _ | refine LeO.ite ?_ ?_ | refine LeO.bind ?_ (fun _ => ?_))
theorem spec_WriteTree.mono : ∀ a0 k, LeO (spec_WriteTree.f k a0) (spec_WriteTree.f (k + 1) a0) := by
  intro a0 k
  have ih0 := spec_WriteTree.mono_l k
  unfold spec_WriteTree.f
  repeat' (with_reducible first | exact ih0 _ _ | exact spec_l2Fault.mono _ _ | exact spec_l2Mark.mono _ _ _ | exact spec_l2Write.mono _ _ _ | exact LeO.refl _ | exact LeO.none _ | refine LeO.ite ?_ ?_ | refine LeO.bind ?_ (fun _ => ?_))
set_option maxHeartbeats 8000000 in
set_option maxRecDepth 100000 in
theorem spec_WriteTree.calls (k : Nat) (A0 : Option Addr) (c0 : Nat) (l0 : List (S40)) (r1 : Int) (r2 : ByteArray) (w : World) (hr0 : Kd.C k40 w A0 l0.length l0) (hc0 : l0.length ≤ c0) (h : spec_WriteTree.f k l0 = some (r1, r2)) :
    Calls Tryz.prog 5 #[.slice A0 l0.length c0] w fun e w' => e = .returned (.agg #[.int .i64 r1, .string r2]) ∧ Below w.heap.size w w' := by
 have hu25 := Tryz.underlying25; have HR0 := a_ hr0; have HC0 := a_ hc0; clear hr0 hc0; have HB := a_ (Below.refl w.heap.size w); have H : ((spec_l2Fault.f k l0).bind fun t158 => (if t158 = 0 then (spec_WriteTree.l0 k l0 0) else (some (t158, (⟨#[]⟩ : ByteArray))))) = some (r1, r2) := h; clear h; replace H := Option.bind_eq_some_iff.mp H; obtain ⟨tx0, Ay0, H⟩ := H; have Ax0 := a_ Ay0; clear Ay0; by_cases cx1 : tx0 = 0; rw [if_pos cx1] at H; have cx1b0 : (tx0 == 0) = true := beq_iff_eq.mpr cx1; have cx1b1 : (tx0 != 0) = false := bne_eq_false_iff_eq.mpr cx1; clear cx1; have H' := a_ H; clear H; have m0_0 := t_; have m0_2 := t_; rotate_left; rw [if_neg cx1] at H; have cx1b0 : (tx0 == 0) = false := beq_eq_false_iff_ne.mpr cx1; have cx1b1 : (tx0 != 0) = true := bne_iff_ne.mpr cx1; simp only [Option.some.injEq, Prod.mk.injEq] at H; obtain ⟨rfl, rfl⟩ := H; have m0_1 := t_; have m0_3 := t_; rotate_left
 all_goals (
  go_enter Tryz.func5, Tryz.ntmps5
  go_wp2_with (first | ((with_reducible refine gate_dst (N := 2) rfl ?_); refine box_event zr_ (N := 2) zr_ (cs := #[.int .i64 0, .string (⟨#[]⟩ : ByteArray)]) (t := 25) zs_ ?_; intro gb9640979 hg w9553946 hbox hb; have n0_ := a_ (below_step y0_ hb); have n1_ := a_ (hbox); have n2_ := a_ ((by rw [hg]; exact (below_size y0_) : w.heap.size ≤ gb9640979)); have n3_ := a_ ((by rw [hg]; exact (below_size y0_) : w.heap.size ≤ gb9640979)); clear HB; have HB := n0_; have BK9640979 := n1_; have GW9640979 := n2_; have GE9640979 := n3_; clear n0_ n1_ n2_ n3_; clear hb hbox hg) | (have mkq_ := m0_0; clear mkq_; (with_reducible refine gate_callee (f := 11) rfl ?_); refine gc_ 11 7 Tryz.func11 #[.slice A0 l0.length c0] ?_; (with_reducible refine (spec_l2Fault.calls k _ _ l0 tx0 _ ?side1 ?side2 Ax0.out).mono ?_); (case side1 => repeat (first | exact (Kd.C_below HR0.out HB.out) | (with_reducible refine Kd.C_alloc ?_ _) | (with_reducible refine Kd.C_drewN ?_ _) | (with_reducible refine Kd.C_drew ?_))); (case side2 => exact HC0.out); rintro e w' ⟨rfl, ⟨nd, rfl⟩⟩; refine ⟨_, rfl, ?_⟩) | (have mkq_ := m0_1; clear mkq_; (with_reducible refine gate_callee (f := 11) rfl ?_); refine gc_ 11 7 Tryz.func11 #[.slice A0 l0.length c0] ?_; (with_reducible refine (spec_l2Fault.calls k _ _ l0 tx0 _ ?side1 ?side2 Ax0.out).mono ?_); (case side1 => repeat (first | exact (Kd.C_below HR0.out HB.out) | (with_reducible refine Kd.C_alloc ?_ _) | (with_reducible refine Kd.C_drewN ?_ _) | (with_reducible refine Kd.C_drew ?_))); (case side2 => exact HC0.out); rintro e w' ⟨rfl, ⟨nd, rfl⟩⟩; refine ⟨_, rfl, ?_⟩; (try (rw [drewN_self w9553946]; generalize hq_ : World.drewN w9553946 _ = w9553946; have n0_ : Aside0 (w9553946.heap[gb9640979]? = some (.cells #[.int .i64 0, .string (⟨#[]⟩ : ByteArray)] 25 (0, 0))) := ⟨by rw [← hq_]; exact y31_⟩; have n1_ : Aside0 (Below w.heap.size w w9553946) := ⟨by rw [← hq_]; exact y16_⟩; clear BK9640979 HB hq_; have BK9640979 := n0_; have HB := n1_; clear n0_ n1_)); have hcz9705863_0 : w9553946.cell? ⟨gb9640979, 0, none⟩ = some (.int .i64 0) := (blk_cell BK9640979.out 0).trans rfl; have hcz9705863_1 : w9553946.cell? ⟨gb9640979, 1, none⟩ = some (.string (⟨#[]⟩ : ByteArray)) := (blk_cell BK9640979.out 1).trans rfl; have hfz9705863_0 := blk_frozen BK9640979.out 0; have hfz9705863_1 := blk_frozen BK9640979.out 1))
  first
  | fail_if_success clear m0_2
  |(clear m0_2; go_loopg [4] k (fun kq v9553946 w' => ∃ (x4_1 : Int) (x158000_1 : Int) (x158001_1 : ByteArray), v9553946 = .int .i64 x4_1 ∧ Aside0 (spec_WriteTree.l0 kq l0 x4_1 = some (r1, r2)) ∧ Aside0 (kq ≤ k) ∧ Aside0 (w'.heap[gb9640979]? = some (.cells #[.int .i64 x158000_1, .string x158001_1] 25 (0, 0))) ∧ Aside0 (Below w.heap.size w w'))
    case atStart => exact ⟨(0), (0), ((⟨#[]⟩ : ByteArray)), y2_, H', ⟨Nat.le_refl _⟩, ⟨y31_⟩, ⟨y16_⟩⟩
    case round =>
     clear H'; (try clear cx1); (try clear cx1b0); (try clear cx1b1); obtain ⟨x4_1, x158000_1, x158001_1, rfl, HA, HK9169899, BK9640979, HB⟩ := hrel; cases gk with
     | zero => exact absurd HA.out (by simp [spec_WriteTree.l0])
     | succ k1 =>
      have H := HA.out; clear HA; simp only [spec_WriteTree.l0] at H; by_cases cx2 : x4_1 < (l0.length : Int); rw [if_pos cx2] at H; have cx2b0 : decide (x4_1 < (l0.length : Int)) = true := decide_eq_true cx2; clear cx2; replace H := Option.bind_eq_some_iff.mp H; obtain ⟨tx3, Ay3, H⟩ := H; have Ax3 := a_ Ay3; clear Ay3; by_cases cx4 : (tx3.size : Int) > 600; rw [if_pos cx4] at H; have cx4b0 : decide (600 < (tx3.size : Int)) = true := decide_eq_true cx4; have cx4b1 : decide (600 < tx3.size) = true := decide_eq_true (by omega); clear cx4; simp only [Option.some.injEq, Prod.mk.injEq] at H; obtain ⟨rfl, rfl⟩ := H; have m1_0 := t_; have m1_2 := t_; have m1_4 := t_; rotate_left; rw [if_neg cx4] at H; have cx4b0 : decide (600 < (tx3.size : Int)) = false := decide_eq_false cx4; have cx4b1 : decide (600 < tx3.size) = false := decide_eq_false (by omega); clear cx4; have H' := a_ H; clear H; have m1_1 := t_; have m1_5 := t_; rotate_left; rw [if_neg cx2] at H; have cx2b0 : decide (x4_1 < (l0.length : Int)) = false := decide_eq_false cx2; clear cx2; replace H := Option.bind_eq_some_iff.mp H; obtain ⟨tx3, Ay3, H⟩ := H; have Ax3 := a_ Ay3; clear Ay3; by_cases cx4 : (tx3.size : Int) > 1500; rw [if_pos cx4] at H; have cx4b0 : decide (1500 < (tx3.size : Int)) = true := decide_eq_true cx4; have cx4b1 : decide (1500 < tx3.size) = true := decide_eq_true (by omega); clear cx4; simp only [Option.some.injEq, Prod.mk.injEq] at H; obtain ⟨rfl, rfl⟩ := H; have m1_2 := t_; have m1_4 := t_; rotate_left; rw [if_neg cx4] at H; have cx4b0 : decide (1500 < (tx3.size : Int)) = false := decide_eq_false cx4; have cx4b1 : decide (1500 < tx3.size) = false := decide_eq_false (by omega); clear cx4; simp only [Option.some.injEq, Prod.mk.injEq] at H; obtain ⟨rfl, rfl⟩ := H; have m1_3 := t_; have m1_4 := t_; rotate_left
      all_goals (
       go_wp2_with (first | (have mkq_ := m1_0; clear mkq_; (with_reducible refine gate_callee (f := 12) rfl ?_); refine gc_ 12 20 Tryz.func12 #[.slice A0 l0.length c0, .int .i64 x4_1] ?_; (with_reducible refine (spec_l2Mark.calls k1 _ _ l0 x4_1 tx3 _ ?side1 ?side2 Ax3.out).mono ?_); (case side1 => repeat (first | exact (Kd.C_below HR0.out HB.out) | (with_reducible refine Kd.C_alloc ?_ _) | (with_reducible refine Kd.C_drewN ?_ _) | (with_reducible refine Kd.C_drew ?_))); (case side2 => exact HC0.out); rintro e w9046538 ⟨rfl, hb⟩; refine ⟨_, rfl, ?_⟩; have n0_ := a_ (blk_below (g := gb9640979) (o := .cells #[.int .i64 x158000_1, .string x158001_1] 25 (0, 0)) y31_ hb); have n1_ := a_ (below_step y16_ hb); clear BK9640979; clear HB; have BK9640979 := n0_; have HB := n1_; clear n0_ n1_; (try clear hb); (try clear hb9013891); (try clear hk); (try clear hi); have hcz9797422_0 : w9046538.cell? ⟨gb9640979, 0, none⟩ = some (.int .i64 x158000_1) := (blk_cell BK9640979.out 0).trans rfl; have hcz9797422_1 : w9046538.cell? ⟨gb9640979, 1, none⟩ = some (.string x158001_1) := (blk_cell BK9640979.out 1).trans rfl; have hfz9797422_0 := blk_frozen BK9640979.out 0; have hfz9797422_1 := blk_frozen BK9640979.out 1) | (have mkq_ := m1_1; clear mkq_; (with_reducible refine gate_callee (f := 12) rfl ?_); refine gc_ 12 20 Tryz.func12 #[.slice A0 l0.length c0, .int .i64 x4_1] ?_; (with_reducible refine (spec_l2Mark.calls k1 _ _ l0 x4_1 tx3 _ ?side1 ?side2 Ax3.out).mono ?_); (case side1 => repeat (first | exact (Kd.C_below HR0.out HB.out) | (with_reducible refine Kd.C_alloc ?_ _) | (with_reducible refine Kd.C_drewN ?_ _) | (with_reducible refine Kd.C_drew ?_))); (case side2 => exact HC0.out); rintro e w9046538 ⟨rfl, hb⟩; refine ⟨_, rfl, ?_⟩; have n0_ := a_ (blk_below (g := gb9640979) (o := .cells #[.int .i64 x158000_1, .string x158001_1] 25 (0, 0)) y31_ hb); have n1_ := a_ (below_step y16_ hb); clear BK9640979; clear HB; have BK9640979 := n0_; have HB := n1_; clear n0_ n1_; (try clear hb); (try clear hb9013891); (try clear hk); (try clear hi)) | ((with_reducible refine gate_callee (f := 13) rfl ?_); refine gc_ 13 25 Tryz.func13 #[.slice A0 l0.length c0, .int .i64 0] ?_; (with_reducible refine (spec_l2Write.calls k1 _ _ l0 0 tx3 _ ?side1 ?side2 Ax3.out).mono ?_); (case side1 => repeat (first | exact (Kd.C_below HR0.out HB.out) | (with_reducible refine Kd.C_alloc ?_ _) | (with_reducible refine Kd.C_drewN ?_ _) | (with_reducible refine Kd.C_drew ?_))); (case side2 => exact HC0.out); rintro e w9920848 ⟨rfl, hb⟩; refine ⟨_, rfl, ?_⟩; have n0_ := a_ (blk_below (g := gb9640979) (o := .cells #[.int .i64 x158000_1, .string x158001_1] 25 (0, 0)) y31_ hb); have n1_ := a_ (below_step y16_ hb); clear BK9640979; clear HB; have BK9640979 := n0_; have HB := n1_; clear n0_ n1_; (try clear hb); (try clear hb9710426); (try clear hk); (try clear hi); have hcz9201327_0 : w9920848.cell? ⟨gb9640979, 0, none⟩ = some (.int .i64 x158000_1) := (blk_cell BK9640979.out 0).trans rfl; have hcz9201327_1 : w9920848.cell? ⟨gb9640979, 1, none⟩ = some (.string x158001_1) := (blk_cell BK9640979.out 1).trans rfl; have hfz9201327_0 := blk_frozen BK9640979.out 0; have hfz9201327_1 := blk_frozen BK9640979.out 1))
       first
       | fail_if_success clear m1_2
       |(clear m1_2; refine bodyPost_ret (results_cell_row rfl _ _ gb9640979 25 #[.int .i64 2, .string (⟨#[]⟩ : ByteArray)] (0, 0) _ rfl (by (with_reducible repeat (first | refine blk_drewN ?_ _ | refine blk_drew ?_ | refine blk_alloc ?_ _)); refine blk_put (cs := #[.int .i64 2, .string x158001_1]) ?_ 1 _ rfl; (with_reducible repeat (first | refine blk_drewN ?_ _ | refine blk_drew ?_ | refine blk_alloc ?_ _)); refine blk_put (cs := #[.int .i64 x158000_1, .string x158001_1]) ?_ 0 _ rfl; (with_reducible repeat (first | refine blk_drewN ?_ _ | refine blk_drew ?_ | refine blk_alloc ?_ _)); exact BK9640979.out) Tryz.underlying25 rfl y23_) rfl ?_)
       first
       | fail_if_success clear m1_3
       |(clear m1_3; refine bodyPost_ret (results_cell_row rfl _ _ gb9640979 25 #[.int .i64 0, .string tx3] (0, 0) _ rfl (by (with_reducible repeat (first | refine blk_drewN ?_ _ | refine blk_drew ?_ | refine blk_alloc ?_ _)); refine blk_put (cs := #[.int .i64 0, .string x158001_1]) ?_ 1 _ rfl; (with_reducible repeat (first | refine blk_drewN ?_ _ | refine blk_drew ?_ | refine blk_alloc ?_ _)); refine blk_put (cs := #[.int .i64 x158000_1, .string x158001_1]) ?_ 0 _ rfl; (with_reducible repeat (first | refine blk_drewN ?_ _ | refine blk_drew ?_ | refine blk_alloc ?_ _)); exact BK9640979.out) Tryz.underlying25 rfl y23_) rfl ?_)
       first
       | fail_if_success clear m1_4
       |(clear m1_4; exact ⟨y6_, y16_⟩)
       first
       | fail_if_success clear m1_5
       |(clear m1_5; go_roundg k1
         case measure => have := HK9169899.out; omega
         case rel => exact ⟨(wrap64 (x4_1 + 1)), (x158000_1), (x158001_1), y2_, H', ⟨by have := HK9169899.out; omega⟩, ⟨y31_⟩, ⟨y16_⟩⟩)))
  first
  | fail_if_success clear m0_3
  |(clear m0_3; refine bodyPost_ret (results_cell_row rfl _ _ gb9640979 25 #[.int .i64 tx0, .string (⟨#[]⟩ : ByteArray)] (0, 0) _ rfl (by (with_reducible repeat (first | refine blk_drewN ?_ _ | refine blk_drew ?_ | refine blk_alloc ?_ _)); refine blk_put (cs := #[.int .i64 tx0, .string (⟨#[]⟩ : ByteArray)]) ?_ 1 _ rfl; (with_reducible repeat (first | refine blk_drewN ?_ _ | refine blk_drew ?_ | refine blk_alloc ?_ _)); refine blk_put (cs := #[.int .i64 0, .string (⟨#[]⟩ : ByteArray)]) ?_ 0 _ rfl; (with_reducible repeat (first | refine blk_drewN ?_ _ | refine blk_drew ?_ | refine blk_alloc ?_ _)); exact BK9640979.out) Tryz.underlying25 rfl y23_) rfl ?_; exact ⟨y6_, y16_⟩))

/-! ### laws_toAttr: function 41 -/
def laws_toAttr.f (a0_0 : ByteArray) (a0_1 : ByteArray) : Option (ByteArray × ByteArray) := some (a0_0, a0_1)
set_option maxHeartbeats 8000000 in
set_option maxRecDepth 100000 in
theorem laws_toAttr.calls (a0_0 : ByteArray) (a0_1 : ByteArray) (r1 : ByteArray) (r2 : ByteArray) (w : World) (h : laws_toAttr.f a0_0 a0_1 = some (r1, r2)) :
    Calls Tryz.prog 41 #[.agg #[.string a0_0, .string a0_1]] w fun e w' => e = .returned (.agg #[.string r1, .string r2]) ∧ Below w.heap.size w w' := by
 have hu65 := Tryz.underlying65; have hu51 := Tryz.underlying51; have HB := a_ (Below.refl w.heap.size w); have H : (some (a0_0, a0_1)) = some (r1, r2) := h; clear h; simp only [Option.some.injEq, Prod.mk.injEq] at H; obtain ⟨rfl, rfl⟩ := H; go_enter Tryz.func41, Tryz.ntmps41
 go_wp2_with (first | ((with_reducible refine gate_dst (N := 1) rfl ?_); refine box_event zr_ (N := 1) zr_ (cs := #[.string a0_0, .string a0_1]) (t := 65) zs_ ?_; intro gb161 hg w2 hbox hb; have n0_ := a_ (below_step y0_ hb); have n1_ := a_ (hbox); have n2_ := a_ ((by rw [hg]; exact (below_size y0_) : w.heap.size ≤ gb161)); have n3_ := a_ ((by rw [hg]; exact (below_size y0_) : w.heap.size ≤ gb161)); clear HB; have HB := n0_; have BK161 := n1_; have GW161 := n2_; have GE161 := n3_; clear n0_ n1_ n2_ n3_; clear hb hbox hg) | ((with_reducible refine gate_dst (N := 2) rfl ?_); refine box_event zr_ (N := 2) zr_ (cs := #[.string (⟨#[]⟩ : ByteArray), .string (⟨#[]⟩ : ByteArray)]) (t := 51) zs_ ?_; intro gb162 hg w3 hbox hb; have n0_ := a_ (blk_below (g := gb161) (o := .cells #[.string a0_0, .string a0_1] 65 (0, 0)) y32_ hb); have n1_ := a_ (below_step y59_ hb); have n2_ := a_ (hbox); have n3_ := a_ ((by rw [hg]; exact (below_size y59_) : w.heap.size ≤ gb162)); have n4_ := a_ ((by rw [hg]; exact (below_size y59_) : w.heap.size ≤ gb162)); have n5_ := a_ ((by rw [hg]; exact Nat.ne_of_lt (blk_lt (g := gb161) (o := .cells #[.string a0_0, .string a0_1] 65 (0, 0)) y32_) : gb161 ≠ gb162)); have n6_ := a_ ((by rw [hg]; exact Nat.ne_of_gt (blk_lt (g := gb161) (o := .cells #[.string a0_0, .string a0_1] 65 (0, 0)) y32_) : gb162 ≠ gb161)); clear BK161; clear HB; have BK161 := n0_; have HB := n1_; have BK162 := n2_; have GW162 := n3_; have GE162 := n4_; have NB161_162 := n5_; have NB162_161 := n6_; clear n0_ n1_ n2_ n3_ n4_ n5_ n6_; clear hb hbox hg) | ((with_reducible refine gate_dst (N := 3) rfl ?_); refine box_event zr_ (N := 3) zr_ (cs := #[.string (⟨#[]⟩ : ByteArray), .string (⟨#[]⟩ : ByteArray)]) (t := 51) zs_ ?_; intro gb163 hg w4 hbox hb; have n0_ := a_ (blk_below (g := gb161) (o := .cells #[.string a0_0, .string a0_1] 65 (0, 0)) y32_ hb); have n1_ := a_ (blk_below (g := gb162) (o := .cells #[.string (⟨#[]⟩ : ByteArray), .string (⟨#[]⟩ : ByteArray)] 51 (0, 0)) y66_ hb); have n2_ := a_ (below_step y51_ hb); have n3_ := a_ (hbox); have n4_ := a_ ((by rw [hg]; exact (below_size y51_) : w.heap.size ≤ gb163)); have n5_ := a_ ((by rw [hg]; exact (below_size y51_) : w.heap.size ≤ gb163)); have n6_ := a_ ((by rw [hg]; exact Nat.ne_of_lt (blk_lt (g := gb161) (o := .cells #[.string a0_0, .string a0_1] 65 (0, 0)) y32_) : gb161 ≠ gb163)); have n7_ := a_ ((by rw [hg]; exact Nat.ne_of_gt (blk_lt (g := gb161) (o := .cells #[.string a0_0, .string a0_1] 65 (0, 0)) y32_) : gb163 ≠ gb161)); have n8_ := a_ ((by rw [hg]; exact Nat.ne_of_lt (blk_lt (g := gb162) (o := .cells #[.string (⟨#[]⟩ : ByteArray), .string (⟨#[]⟩ : ByteArray)] 51 (0, 0)) y66_) : gb162 ≠ gb163)); have n9_ := a_ ((by rw [hg]; exact Nat.ne_of_gt (blk_lt (g := gb162) (o := .cells #[.string (⟨#[]⟩ : ByteArray), .string (⟨#[]⟩ : ByteArray)] 51 (0, 0)) y66_) : gb163 ≠ gb162)); clear BK161; clear BK162; clear HB; have BK161 := n0_; have BK162 := n1_; have HB := n2_; have BK163 := n3_; have GW163 := n4_; have GE163 := n5_; have NB161_163 := n6_; have NB163_161 := n7_; have NB162_163 := n8_; have NB163_162 := n9_; clear n0_ n1_ n2_ n3_ n4_ n5_ n6_ n7_ n8_ n9_; clear hb hbox hg; have hnb5 := NB161_162.out; have hnc5 := NB162_161.out; have hnb6 := NB161_163.out; have hnc6 := NB163_161.out; have hcz7_0 : w4.cell? ⟨gb161, 0, none⟩ = some (.string a0_0) := (blk_cell BK161.out 0).trans rfl; have hcz7_1 : w4.cell? ⟨gb161, 1, none⟩ = some (.string a0_1) := (blk_cell BK161.out 1).trans rfl; have hfz7_0 := blk_frozen BK161.out 0; have hfz7_1 := blk_frozen BK161.out 1; have hnb8 := NB163_162.out; have hnc8 := NB162_163.out; have hcz9_0 : w4.cell? ⟨gb163, 0, none⟩ = some (.string (⟨#[]⟩ : ByteArray)) := (blk_cell BK163.out 0).trans rfl; have hcz9_1 : w4.cell? ⟨gb163, 1, none⟩ = some (.string (⟨#[]⟩ : ByteArray)) := (blk_cell BK163.out 1).trans rfl; have hfz9_0 := blk_frozen BK163.out 0; have hfz9_1 := blk_frozen BK163.out 1; have hcz10_0 : w4.cell? ⟨gb162, 0, none⟩ = some (.string (⟨#[]⟩ : ByteArray)) := (blk_cell BK162.out 0).trans rfl; have hcz10_1 : w4.cell? ⟨gb162, 1, none⟩ = some (.string (⟨#[]⟩ : ByteArray)) := (blk_cell BK162.out 1).trans rfl; have hfz10_0 := blk_frozen BK162.out 0; have hfz10_1 := blk_frozen BK162.out 1))
 refine bodyPost_ret (results_cell_row rfl _ _ gb162 51 #[.string a0_0, .string a0_1] (0, 0) _ rfl (by (with_reducible repeat (first | refine blk_drewN ?_ _ | refine blk_drew ?_ | refine blk_alloc ?_ _)); refine blk_put (cs := #[.string a0_0, .string (⟨#[]⟩ : ByteArray)]) ?_ 1 _ rfl; (with_reducible repeat (first | refine blk_drewN ?_ _ | refine blk_drew ?_ | refine blk_alloc ?_ _)); refine blk_put (cs := #[.string (⟨#[]⟩ : ByteArray), .string (⟨#[]⟩ : ByteArray)]) ?_ 0 _ rfl; (with_reducible repeat (first | refine blk_drewN ?_ _ | refine blk_drew ?_ | refine blk_alloc ?_ _)); refine blk_far ?_ NB162_163.out _; (with_reducible repeat (first | refine blk_drewN ?_ _ | refine blk_drew ?_ | refine blk_alloc ?_ _)); refine blk_far ?_ NB162_163.out _; (with_reducible repeat (first | refine blk_drewN ?_ _ | refine blk_drew ?_ | refine blk_alloc ?_ _)); exact BK162.out) Tryz.underlying51 rfl y23_) rfl ?_; exact ⟨y6_, by repeat (first | (with_reducible first | exact HB.out | apply below_alloc | apply pw_below_drewN | apply below_drew1 | refine below_set ?_ GE161.out | refine below_set ?_ GE162.out | refine below_set ?_ GE163.out) | exact HB.out)⟩

/-! ### laws_toAttrS: function 27 -/
def laws_toAttrS.l0 : Nat → List (S65) → List (S51) → Int → Option ((List (S51)))
  | 0, _, _, _ => none
  | k + 1, x0, x3, x4 => if x4 < (x0.length : Int) then (if 0 ≤ x4 then ((laws_toAttr.f ((rd_T65 x0 x4).f0) ((rd_T65 x0 x4).f1)).bind fun bt168 => (if x4 < (x3.length : Int) then (laws_toAttrS.l0 k x0 (x3.set (x4 : Int).toNat (⟨bt168.1, bt168.2⟩ : S51)) (wrap64 (x4 + 1))) else (none))) else (none)) else (some x3)
def laws_toAttrS.f (k : Nat) (l0 : List (S65)) : Option ((List (S51))) := if 0 ≤ (l0.length : Int) then (if ((l0.length : Int) : Int).toNat ≤ 8796093022208 then (laws_toAttrS.l0 k l0 (List.replicate ((l0.length : Int) : Int).toNat z51) 0) else (none)) else (none)
theorem laws_toAttrS.mono_l : ∀ k, (∀ y0 y1 y2, LeO (laws_toAttrS.l0 k y0 y1 y2) (laws_toAttrS.l0 (k + 1) y0 y1 y2))
  | 0 => fun _ _ _ r h => by simp [laws_toAttrS.l0] at h
  | k + 1 => by
    have ih0 := laws_toAttrS.mono_l k
    · intro y0 y1 y2
      unfold laws_toAttrS.l0
      repeat' (with_reducible first | exact ih0 _ _ _ | exact LeO.refl _ | exact LeO.none _ | refine LeO.ite ?_ ?_ | refine LeO.bind ?_ (fun _ => ?_))
theorem laws_toAttrS.mono : ∀ a0 k, LeO (laws_toAttrS.f k a0) (laws_toAttrS.f (k + 1) a0) := by
  intro a0 k
  have ih0 := laws_toAttrS.mono_l k
  unfold laws_toAttrS.f
  repeat' (with_reducible first | exact ih0 _ _ _ | exact LeO.refl _ | exact LeO.none _ | refine LeO.ite ?_ ?_ | refine LeO.bind ?_ (fun _ => ?_))
set_option maxHeartbeats 8000000 in
set_option maxRecDepth 100000 in
theorem laws_toAttrS.calls (k : Nat) (A0 : Option Addr) (c0 : Nat) (l0 : List (S65)) (r : List (S51)) (w : World) (hr0 : Kd.C k65 w A0 l0.length l0) (hc0 : l0.length ≤ c0) (h : laws_toAttrS.f k l0 = some r) :
    Calls Tryz.prog 27 #[.slice A0 l0.length c0] w fun e w' => ∃ v0_ : Value, e = .returned (v0_) ∧ Kd.R k51 51 w' w.heap.size (fun _ => True) v0_ r ∧ Below w.heap.size w w' := by
 have hu65 := Tryz.underlying65; have hu51 := Tryz.underlying51; have HR0 := a_ hr0; have HC0 := a_ hc0; clear hr0 hc0; have HB := a_ (Below.refl w.heap.size w); have H : (if 0 ≤ (l0.length : Int) then (if ((l0.length : Int) : Int).toNat ≤ 8796093022208 then (laws_toAttrS.l0 k l0 (List.replicate ((l0.length : Int) : Int).toNat z51) 0) else (none)) else (none)) = some r := h; clear h; by_cases cx0 : 0 ≤ (l0.length : Int)
 ·rw [if_pos cx0] at H; have cx0b0 := eq_true cx0; have cx0b1 : decide (0 ≤ (l0.length : Int)) = true := decide_eq_true cx0; clear cx0; by_cases cx1 : ((l0.length : Int) : Int).toNat ≤ 8796093022208
  ·rw [if_pos cx1] at H; have cx1b0 := eq_true cx1; have cx1b1 : decide (((l0.length : Int) : Int).toNat ≤ 8796093022208) = true := decide_eq_true cx1; clear cx1; obtain ⟨y164, hy_⟩ : ∃ y_ : List (S51), y_ = (List.replicate ((l0.length : Int) : Int).toNat z51) := ⟨_, rfl⟩; replace H : (laws_toAttrS.l0 k l0 y164 0) = some r := z0_; have Ny164 := a_ hy_; clear hy_; have H' := a_ H; clear H; go_enter Tryz.func27, Tryz.ntmps27
   go_wp2_with (first | ((with_reducible refine gate_dst (N := 7) rfl ?_); refine Kd.R_make k51 _ 51 rfl (N := 7) rfl 38 _ _ rfl (l0.length : Int) rfl rfl Tryz.underlying38 (.agg #[(.string ⟨#[]⟩), (.string ⟨#[]⟩)]) 32 info51 rfl y48_ (by omega) z51 (ok := fun _ => True) (okp := fun _ => True) (k51_mkM _ _ _ z51 ) (fun _ hk => hk) trivial (of_decide_eq_true y3_) (Nat.le_trans (Nat.mul_le_mul_right _ (of_decide_eq_true y3_ : (l0.length : Int).toNat ≤ 8796093022208)) (by omega)) (Below.refl _ _) (Nat.le_refl _) ?_; intro v165 w4 ho5 hb hg_ hnew_; clear hg_ hnew_; (first | rw [← Ny164.out] at ho5 | (simp only [Int.reduceToNat] at ho5; rw [← Ny164.out] at ho5)); have n0_ := a_ (Kd.R_lower ho5 (below_size y0_)); have n1_ := a_ (below_step y0_ hb); clear HB; have HO166 := n0_; have HB := n1_; clear n0_ n1_; clear hb ho5))
   go_loopg [4] k (fun kq v4 w' => ∃ (x3_1 : List (S51)) (x4_1 : Int), v4 = .int .i64 x4_1 ∧ Aside0 (laws_toAttrS.l0 kq l0 x3_1 x4_1 = some r) ∧ Aside0 (kq ≤ k) ∧ Aside0 (Kd.R k51 51 w' w.heap.size (fun _ => True) v165 x3_1) ∧ Aside0 (Below w.heap.size w w'))
   case atStart => exact ⟨(y164), (0), y2_, H', ⟨Nat.le_refl _⟩, ⟨by (with_reducible repeat (first | apply Kd.R_alloc | apply Kd.R_drewN | apply Kd.R_drew)); exact HO166.out⟩, ⟨y0_⟩⟩
   case round =>
    clear H'; (try clear cx0); (try clear cx0b0); (try clear cx0b1); (try clear cx1); (try clear cx1b0); (try clear cx1b1); obtain ⟨x3_1, x4_1, rfl, HA, HK1, HO_3, HB⟩ := hrel; cases gk with
    | zero => exact absurd HA.out (by simp [laws_toAttrS.l0])
    | succ k1 =>
     have H := HA.out; clear HA; simp only [laws_toAttrS.l0] at H; by_cases cx2 : x4_1 < (l0.length : Int)
     ·rw [if_pos cx2] at H; have cx2b0 : decide (x4_1 < (l0.length : Int)) = true := decide_eq_true cx2; clear cx2; by_cases cx3 : 0 ≤ x4_1
      ·rw [if_pos cx3] at H; have cx3b0 : decide (0 ≤ x4_1) = true := decide_eq_true cx3; clear cx3; replace H := Option.bind_eq_some_iff.mp H; obtain ⟨⟨t168, t169⟩, A80, H⟩ := H; replace H : (if x4_1 < (x3_1.length : Int) then (laws_toAttrS.l0 k1 l0 (x3_1.set (x4_1 : Int).toNat (⟨t168, t169⟩ : S51)) (wrap64 (x4_1 + 1))) else (none)) = some r := H; have A8 := a_ A80; clear A80; by_cases cx4 : x4_1 < (x3_1.length : Int)
       ·rw [if_pos cx4] at H; have cx4b0 : decide (x4_1 < (x3_1.length : Int)) = true := decide_eq_true cx4; clear cx4; obtain ⟨y170, hy_⟩ : ∃ y_ : List (S51), y_ = (x3_1.set (x4_1 : Int).toNat (⟨t168, t169⟩ : S51)) := ⟨_, rfl⟩; replace H : (laws_toAttrS.l0 k1 l0 y170 (wrap64 (x4_1 + 1))) = some r := z0_; have Ny170 := a_ hy_; clear hy_; have H' := a_ H; clear H; have p167 : 0 ≤ (x4_1 : Int) := of_decide_eq_true y3_; have q167 : x4_1 < (l0.length : Int) := of_decide_eq_true y3_; obtain ⟨ad167, e167, hx167_0, hx167_1⟩ := at_T65 HR0.out x4_1 p167 q167; cases e167; replace hx167_0 := cT_ HB.out hx167_0; replace hx167_1 := cT_ HB.out hx167_1; replace p167 := eq_true p167; replace q167 := eq_true q167
        go_wp2_with (first | ((with_reducible refine gate_callee (f := 41) rfl ?_); refine gc_ 41 20 Tryz.func41 #[.agg #[.string ((rd_T65 l0 x4_1).f0), .string ((rd_T65 l0 x4_1).f1)]] ?_; (with_reducible refine (laws_toAttr.calls ((rd_T65 l0 x4_1).f0) ((rd_T65 l0 x4_1).f1) t168 t169 _ A8.out).mono ?_); rintro e w11 ⟨rfl, hb⟩; refine ⟨_, rfl, ?_⟩; have n0_ := a_ (Kd.R_below y62_ hb); have n1_ := a_ (below_step y0_ hb); clear HO_3; clear HB; have HO_3 := n0_; have HB := n1_; clear n0_ n1_; (try clear hb); (try clear hb2); (try clear hk); (try clear hi); have p10 : 0 ≤ (x4_1 : Int) := of_decide_eq_true y3_; have q10 : (x4_1 : Int) < ((x3_1.length : Int) : Int) := of_decide_eq_true y3_; obtain ⟨go10, co10, eo10, gb10, gl10, cl10, HG10⟩ := Kd.R_form HO_3.out (by omega); (first | cases eo10 | (injection eo10 with ea_ en_ ec_; (first | subst ea_ | (injection ea_ with ea_; subst ea_)); subst ec_; clear en_)); have GB10 := a_ gb10; have GG10 := a_ HG10; clear gb10 gl10 HG10; obtain ⟨ce10, hcl10, hM10, hcc10, hfr10⟩ := Kd.R_elem HO_3.out z51 (x4_1 : Int) p10 q10; obtain rfl := k51_openM hM10; have hx10_0 : w11.cell? ⟨go10, (x4_1 : Int).toNat * 2, none⟩ = some (.string ((rd_T51 x3_1 x4_1).f0)) := hcc10 0 _ rfl; have hx10_1 : w11.cell? ⟨go10, (x4_1 : Int).toNat * 2 + 1, none⟩ = some (.string ((rd_T51 x3_1 x4_1).f1)) := hcc10 1 _ rfl; have hf10_0 : w11.frozen? ⟨go10, (x4_1 : Int).toNat * 2, none⟩ = false := hfr10 0; have hf10_1 : w11.frozen? ⟨go10, (x4_1 : Int).toNat * 2 + 1, none⟩ = false := hfr10 1; clear hcl10 hcc10 hfr10 hM10; replace p10 := eq_true p10; replace q10 := eq_true q10; have HX12 := a_ (show Kd.R k51 51 w11 w.heap.size (fun _ => True) (.slice (some ⟨go10, 0, none⟩) x3_1.length co10) x3_1 from y62_); obtain ⟨ce12, hcl12, hM12, hcc12, hfr12⟩ := Kd.R_elem HX12.out z51 (x4_1 : Int) (of_decide_eq_true y3_) (by have h_ : (x4_1 : Int) < ((x3_1.length : Int) : Int) := of_decide_eq_true y3_; first | exact h_ | (have e_ := (Kd.R_reads' HO_3.out).1; omega) | simpa using h_); obtain rfl := k51_openM hM12; have HP12 := Kd.R_seg HX12.out (x4_1 : Int) (of_decide_eq_true y3_) (by have h_ : (x4_1 : Int) < ((x3_1.length : Int) : Int) := of_decide_eq_true y3_; first | exact h_ | (have e_ := (Kd.R_reads' HO_3.out).1; omega) | simpa using h_) (seg := [.string t168, .string t169]) (j := 0) hcl12 hcc12 (show 2 ≤ 2 from by decide) (x' := (⟨t168, t169⟩ : S51)) (k51_mkM _ _ _ (⟨t168, t169⟩ : S51) ) (fun _ hk => hk); have hx12_0 := hcc12 0 _ rfl; (try simp only [show (k51).sz = 2 from rfl, Nat.mul_one, Nat.add_zero] at hx12_0); have hf12_0 := hfr12 0; (try simp only [show (k51).sz = 2 from rfl, Nat.mul_one, Nat.add_zero] at hf12_0); have hx12_1 := hcc12 1 _ rfl; (try simp only [show (k51).sz = 2 from rfl, Nat.mul_one, Nat.add_zero] at hx12_1); have hf12_1 := hfr12 1; (try simp only [show (k51).sz = 2 from rfl, Nat.mul_one, Nat.add_zero] at hf12_1); clear hcl12 hcc12 hfr12 hM12) | ((with_reducible refine gate_store (t := 51) (p := 21) rfl ?_); refine store_event (t := 51) (p := 21) (v := ?vo_w13) (w1 := ((w11.setCell ⟨go10, (x4_1 : Int).toNat * 2, none⟩ (.string t168)).setCell ⟨go10, (x4_1 : Int).toNat * 2 + 1, none⟩ (.string t169))) ?hg ?ho ?hn ?hr ?_; (case ho => rfl); (case hg => rfl); (case hn => rfl); (case hr => first | (go_simp; done) | (go_simp; rfl)); intro w13 hw; have hg : w11.grownBy w13 (some go10) := (by rw [hw]; exact HP12.2); have hp_ : Kd.R k51 51 w13 w.heap.size (fun _ => True) (.slice (some ⟨go10, 0, none⟩) x3_1.length co10) y170 := (by rw [hw, Ny170.out]; exact HP12.1); clear HP12; have n0_ := a_ (hp_); have n1_ := a_ ((by rw [hw]; exact below_set (below_set (HB.out) GB10.out) GB10.out : Below w.heap.size w w13)); clear HO_3; clear HB; have HO_3 := n0_; have HB := n1_; clear n0_ n1_; clear hg hw hp_))
        go_roundg k1
        case measure => have := HK1.out; omega
        case rel => exact ⟨(y170), (wrap64 (x4_1 + 1)), y2_, H', ⟨y29_⟩, ⟨y62_⟩, ⟨y0_⟩⟩
       ·rw [if_neg cx4] at H; exact absurd H y50_
      ·rw [if_neg cx3] at H; exact absurd H y50_
     ·rw [if_neg cx2] at H; have cx2b0 : decide (x4_1 < (l0.length : Int)) = false := decide_eq_false cx2; clear cx2; obtain rfl := Option.some.inj H; go_wp2
      go_ret
      exact ⟨_, y6_, y62_, y0_⟩
  ·rw [if_neg cx1] at H; exact absurd H y50_
 ·rw [if_neg cx0] at H; exact absurd H y50_

/-! ### laws_toElem: function 14 -/
def laws_toElem.f (k : Nat) (a0_0 : ByteArray) (a0_1 : Int) (l0_2 : List (S65)) : Option (ByteArray × Int × (List (S51))) := (laws_toAttrS.f k l0_2).bind fun t174 => (some (a0_0, a0_1, t174))
theorem laws_toElem.mono : ∀ a0 a1 a2 k, LeO (laws_toElem.f k a0 a1 a2) (laws_toElem.f (k + 1) a0 a1 a2) := by
  intro a0 a1 a2 k
  unfold laws_toElem.f
  repeat' (with_reducible first | exact laws_toAttrS.mono _ _ | exact LeO.refl _ | exact LeO.none _ | refine LeO.ite ?_ ?_ | refine LeO.bind ?_ (fun _ => ?_))
set_option maxHeartbeats 8000000 in
set_option maxRecDepth 100000 in
theorem laws_toElem.calls (k : Nat) (a0_0 : ByteArray) (a0_1 : Int) (A0_2 : Option Addr) (c0_2 : Nat) (l0_2 : List (S65)) (r1 : ByteArray) (r2 : Int) (r3 : List (S51)) (w : World) (hr0_2 : Kd.C k65 w A0_2 l0_2.length l0_2) (hc0_2 : l0_2.length ≤ c0_2) (h : laws_toElem.f k a0_0 a0_1 l0_2 = some (r1, r2, r3)) :
    Calls Tryz.prog 14 #[.agg #[.string a0_0, .int .i64 a0_1, .slice A0_2 l0_2.length c0_2]] w fun e w' => ∃ v2_ : Value, e = .returned (.agg #[.string r1, .int .i64 r2, v2_]) ∧ Kd.R k51 51 w' w.heap.size (fun _ => True) v2_ r3 ∧ Below w.heap.size w w' := by
 have hu35 := Tryz.underlying35; have hu40 := Tryz.underlying40; have HR0_2 := a_ hr0_2; have HC0_2 := a_ hc0_2; clear hr0_2 hc0_2; have HB := a_ (Below.refl w.heap.size w); have H : ((laws_toAttrS.f k l0_2).bind fun t174 => (some (a0_0, a0_1, t174))) = some (r1, r2, r3) := h; clear h; replace H := Option.bind_eq_some_iff.mp H; obtain ⟨t174, A20, H⟩ := H; have A2 := a_ A20; clear A20; simp only [Option.some.injEq, Prod.mk.injEq] at H; obtain ⟨rfl, rfl, rfl⟩ := H; go_enter Tryz.func14, Tryz.ntmps14
 go_wp2_with (first | ((with_reducible refine gate_dst (N := 1) rfl ?_); refine box_event zr_ (N := 1) zr_ (cs := #[.string a0_0, .int .i64 a0_1, .slice A0_2 l0_2.length c0_2]) (t := 35) zs_ ?_; intro gb171 hg w3 hbox hb; have n0_ := a_ (below_step y0_ hb); have n1_ := a_ (hbox); have n2_ := a_ ((by rw [hg]; exact (below_size y0_) : w.heap.size ≤ gb171)); have n3_ := a_ ((by rw [hg]; exact (below_size y0_) : w.heap.size ≤ gb171)); clear HB; have HB := n0_; have BK171 := n1_; have GW171 := n2_; have GE171 := n3_; clear n0_ n1_ n2_ n3_; clear hb hbox hg) | ((with_reducible refine gate_dst (N := 2) rfl ?_); refine box_event zr_ (N := 2) zr_ (cs := #[.string (⟨#[]⟩ : ByteArray), .int .i64 0, .slice none 0 0]) (t := 40) zs_ ?_; intro gb172 hg w4 hbox hb; have n0_ := a_ (blk_below (g := gb171) (o := .cells #[.string a0_0, .int .i64 a0_1, .slice A0_2 l0_2.length c0_2] 35 (0, 0)) y33_ hb); have n1_ := a_ (below_step y60_ hb); have n2_ := a_ (hbox); have n3_ := a_ ((by rw [hg]; exact (below_size y60_) : w.heap.size ≤ gb172)); have n4_ := a_ ((by rw [hg]; exact (below_size y60_) : w.heap.size ≤ gb172)); have n5_ := a_ ((by rw [hg]; exact Nat.ne_of_lt (blk_lt (g := gb171) (o := .cells #[.string a0_0, .int .i64 a0_1, .slice A0_2 l0_2.length c0_2] 35 (0, 0)) y33_) : gb171 ≠ gb172)); have n6_ := a_ ((by rw [hg]; exact Nat.ne_of_gt (blk_lt (g := gb171) (o := .cells #[.string a0_0, .int .i64 a0_1, .slice A0_2 l0_2.length c0_2] 35 (0, 0)) y33_) : gb172 ≠ gb171)); clear BK171; clear HB; have BK171 := n0_; have HB := n1_; have BK172 := n2_; have GW172 := n3_; have GE172 := n4_; have NB171_172 := n5_; have NB172_171 := n6_; clear n0_ n1_ n2_ n3_ n4_ n5_ n6_; clear hb hbox hg) | ((with_reducible refine gate_dst (N := 3) rfl ?_); refine box_event zr_ (N := 3) zr_ (cs := #[.string (⟨#[]⟩ : ByteArray), .int .i64 0, .slice none 0 0]) (t := 40) zs_ ?_; intro gb173 hg w5 hbox hb; have n0_ := a_ (blk_below (g := gb171) (o := .cells #[.string a0_0, .int .i64 a0_1, .slice A0_2 l0_2.length c0_2] 35 (0, 0)) y33_ hb); have n1_ := a_ (blk_below (g := gb172) (o := .cells #[.string (⟨#[]⟩ : ByteArray), .int .i64 0, .slice none 0 0] 40 (0, 0)) y67_ hb); have n2_ := a_ (below_step y52_ hb); have n3_ := a_ (hbox); have n4_ := a_ ((by rw [hg]; exact (below_size y52_) : w.heap.size ≤ gb173)); have n5_ := a_ ((by rw [hg]; exact (below_size y52_) : w.heap.size ≤ gb173)); have n6_ := a_ ((by rw [hg]; exact Nat.ne_of_lt (blk_lt (g := gb171) (o := .cells #[.string a0_0, .int .i64 a0_1, .slice A0_2 l0_2.length c0_2] 35 (0, 0)) y33_) : gb171 ≠ gb173)); have n7_ := a_ ((by rw [hg]; exact Nat.ne_of_gt (blk_lt (g := gb171) (o := .cells #[.string a0_0, .int .i64 a0_1, .slice A0_2 l0_2.length c0_2] 35 (0, 0)) y33_) : gb173 ≠ gb171)); have n8_ := a_ ((by rw [hg]; exact Nat.ne_of_lt (blk_lt (g := gb172) (o := .cells #[.string (⟨#[]⟩ : ByteArray), .int .i64 0, .slice none 0 0] 40 (0, 0)) y67_) : gb172 ≠ gb173)); have n9_ := a_ ((by rw [hg]; exact Nat.ne_of_gt (blk_lt (g := gb172) (o := .cells #[.string (⟨#[]⟩ : ByteArray), .int .i64 0, .slice none 0 0] 40 (0, 0)) y67_) : gb173 ≠ gb172)); clear BK171; clear BK172; clear HB; have BK171 := n0_; have BK172 := n1_; have HB := n2_; have BK173 := n3_; have GW173 := n4_; have GE173 := n5_; have NB171_173 := n6_; have NB173_171 := n7_; have NB172_173 := n8_; have NB173_172 := n9_; clear n0_ n1_ n2_ n3_ n4_ n5_ n6_ n7_ n8_ n9_; clear hb hbox hg; have hnb6 := NB171_172.out; have hnc6 := NB172_171.out; have hnb7 := NB171_173.out; have hnc7 := NB173_171.out; have hcz8_0 : w5.cell? ⟨gb171, 0, none⟩ = some (.string a0_0) := (blk_cell BK171.out 0).trans rfl; have hcz8_1 : w5.cell? ⟨gb171, 1, none⟩ = some (.int .i64 a0_1) := (blk_cell BK171.out 1).trans rfl; have hcz8_2 : w5.cell? ⟨gb171, 2, none⟩ = some (.slice A0_2 l0_2.length c0_2) := (blk_cell BK171.out 2).trans rfl; have hfz8_0 := blk_frozen BK171.out 0; have hfz8_1 := blk_frozen BK171.out 1; have hfz8_2 := blk_frozen BK171.out 2; have hnb9 := NB173_172.out; have hnc9 := NB172_173.out; have hcz10_0 : w5.cell? ⟨gb173, 0, none⟩ = some (.string (⟨#[]⟩ : ByteArray)) := (blk_cell BK173.out 0).trans rfl; have hcz10_1 : w5.cell? ⟨gb173, 1, none⟩ = some (.int .i64 0) := (blk_cell BK173.out 1).trans rfl; have hcz10_2 : w5.cell? ⟨gb173, 2, none⟩ = some (.slice none 0 0) := (blk_cell BK173.out 2).trans rfl; have hfz10_0 := blk_frozen BK173.out 0; have hfz10_1 := blk_frozen BK173.out 1; have hfz10_2 := blk_frozen BK173.out 2) | ((with_reducible refine gate_callee (f := 27) rfl ?_); refine gc_ 27 12 Tryz.func27 #[.slice A0_2 l0_2.length c0_2] ?_; (with_reducible refine (laws_toAttrS.calls k _ _ l0_2 t174 _ ?side1 ?side2 A2.out).mono ?_); (case side1 => exact Kd.C_below HR0_2.out y26_); (case side2 => exact HC0_2.out); rintro e w11 ⟨v175, rfl, ho0, hb⟩; refine ⟨_, rfl, ?_⟩; have n0_ := a_ (Kd.R_lower ho0 (below_size y26_)); have n1_ := a_ (blk_below (g := gb171) (o := .cells #[.string a0_0, .int .i64 a0_1, .slice A0_2 l0_2.length c0_2] 35 (0, 0)) (by (with_reducible repeat (first | refine blk_drewN ?_ _ | refine blk_drew ?_ | refine blk_alloc ?_ _)); refine blk_far ?_ NB171_173.out _; (with_reducible repeat (first | refine blk_drewN ?_ _ | refine blk_drew ?_ | refine blk_alloc ?_ _)); refine blk_far ?_ NB171_173.out _; (with_reducible repeat (first | refine blk_drewN ?_ _ | refine blk_drew ?_ | refine blk_alloc ?_ _)); exact BK171.out) hb); have n2_ := a_ (blk_below (g := gb172) (o := .cells #[.string (⟨#[]⟩ : ByteArray), .int .i64 0, .slice none 0 0] 40 (0, 0)) (by (with_reducible repeat (first | refine blk_drewN ?_ _ | refine blk_drew ?_ | refine blk_alloc ?_ _)); refine blk_far ?_ NB172_173.out _; (with_reducible repeat (first | refine blk_drewN ?_ _ | refine blk_drew ?_ | refine blk_alloc ?_ _)); refine blk_far ?_ NB172_173.out _; (with_reducible repeat (first | refine blk_drewN ?_ _ | refine blk_drew ?_ | refine blk_alloc ?_ _)); exact BK172.out) hb); have n3_ := a_ (blk_below (g := gb173) (o := .cells #[.string a0_0, .int .i64 a0_1, .slice none 0 0] 40 (0, 0)) (by (with_reducible repeat (first | refine blk_drewN ?_ _ | refine blk_drew ?_ | refine blk_alloc ?_ _)); refine blk_put (cs := #[.string a0_0, .int .i64 0, .slice none 0 0]) ?_ 1 _ rfl; (with_reducible repeat (first | refine blk_drewN ?_ _ | refine blk_drew ?_ | refine blk_alloc ?_ _)); refine blk_put (cs := #[.string (⟨#[]⟩ : ByteArray), .int .i64 0, .slice none 0 0]) ?_ 0 _ rfl; (with_reducible repeat (first | refine blk_drewN ?_ _ | refine blk_drew ?_ | refine blk_alloc ?_ _)); exact BK173.out) hb); have n4_ := a_ (below_step y26_ hb); clear BK171; clear BK172; clear BK173; clear HB; have HO176 := n0_; have BK171 := n1_; have BK172 := n2_; have BK173 := n3_; have HB := n4_; clear n0_ n1_ n2_ n3_ n4_; (try clear hb); (try clear hb2); (try clear hk); (try clear hi); (try clear ho0); obtain ⟨Ao12, co12, eo12⟩ := Kd.R_slice HO176.out; subst eo12; have hcz13_0 : w11.cell? ⟨gb173, 0, none⟩ = some (.string a0_0) := (blk_cell BK173.out 0).trans rfl; have hcz13_1 : w11.cell? ⟨gb173, 1, none⟩ = some (.int .i64 a0_1) := (blk_cell BK173.out 1).trans rfl; have hcz13_2 : w11.cell? ⟨gb173, 2, none⟩ = some (.slice none 0 0) := (blk_cell BK173.out 2).trans rfl; have hfz13_0 := blk_frozen BK173.out 0; have hfz13_1 := blk_frozen BK173.out 1; have hfz13_2 := blk_frozen BK173.out 2; have hcz14_0 : w11.cell? ⟨gb172, 0, none⟩ = some (.string (⟨#[]⟩ : ByteArray)) := (blk_cell BK172.out 0).trans rfl; have hcz14_1 : w11.cell? ⟨gb172, 1, none⟩ = some (.int .i64 0) := (blk_cell BK172.out 1).trans rfl; have hcz14_2 : w11.cell? ⟨gb172, 2, none⟩ = some (.slice none 0 0) := (blk_cell BK172.out 2).trans rfl; have hfz14_0 := blk_frozen BK172.out 0; have hfz14_1 := blk_frozen BK172.out 1; have hfz14_2 := blk_frozen BK172.out 2))
 refine bodyPost_ret (results_cell_row rfl _ _ gb172 40 #[.string a0_0, .int .i64 a0_1, .slice Ao12 t174.length co12] (0, 0) _ rfl (by (with_reducible repeat (first | refine blk_drewN ?_ _ | refine blk_drew ?_ | refine blk_alloc ?_ _)); refine blk_put (cs := #[.string a0_0, .int .i64 a0_1, .slice none 0 0]) ?_ 2 _ rfl; (with_reducible repeat (first | refine blk_drewN ?_ _ | refine blk_drew ?_ | refine blk_alloc ?_ _)); refine blk_put (cs := #[.string a0_0, .int .i64 0, .slice none 0 0]) ?_ 1 _ rfl; (with_reducible repeat (first | refine blk_drewN ?_ _ | refine blk_drew ?_ | refine blk_alloc ?_ _)); refine blk_put (cs := #[.string (⟨#[]⟩ : ByteArray), .int .i64 0, .slice none 0 0]) ?_ 0 _ rfl; (with_reducible repeat (first | refine blk_drewN ?_ _ | refine blk_drew ?_ | refine blk_alloc ?_ _)); refine blk_far ?_ NB172_173.out _; (with_reducible repeat (first | refine blk_drewN ?_ _ | refine blk_drew ?_ | refine blk_alloc ?_ _)); exact BK172.out) Tryz.underlying40 rfl y23_) rfl ?_; exact ⟨_, y6_, by (with_reducible repeat (first | apply Kd.R_alloc | apply Kd.R_drewN | apply Kd.R_drew)); exact Kd.R_mono (Kd.R_far (p := ⟨gb172, 2, none⟩) (Kd.R_far (p := ⟨gb172, 1, none⟩) (Kd.R_far (p := ⟨gb172, 0, none⟩) (Kd.R_far (p := ⟨gb173, 2, none⟩) (Kd.R_types (Kd.R_types HO176.out BK173.out y48_) BK172.out y48_) (fun _ hk => hk.1.2) (.slice Ao12 t174.length co12)) (fun _ hk => hk.2) (.string a0_0)) (fun _ hk => hk.2) (.int .i64 a0_1)) (fun _ hk => hk.2) (.slice Ao12 t174.length co12)) (fun _ hk => trivial), y26_⟩

/-! ### laws_toElemS: function 6 -/
def laws_toElemS.l0 : Nat → List (S35) → List (S40) → Int → Option ((List (S40)))
  | 0, _, _, _ => none
  | k + 1, x0, x3, x4 => if x4 < (x0.length : Int) then (if 0 ≤ x4 then ((laws_toElem.f k ((rd_T35 x0 x4).f0) ((rd_T35 x0 x4).f1) ((rd_T35 x0 x4).f2)).bind fun bt181 => (if x4 < (x3.length : Int) then (laws_toElemS.l0 k x0 (x3.set (x4 : Int).toNat (⟨bt181.1, bt181.2.1, bt181.2.2⟩ : S40)) (wrap64 (x4 + 1))) else (none))) else (none)) else (some x3)
def laws_toElemS.f (k : Nat) (l0 : List (S35)) : Option ((List (S40))) := if 0 ≤ (l0.length : Int) then (if ((l0.length : Int) : Int).toNat ≤ 5864062014805 then (laws_toElemS.l0 k l0 (List.replicate ((l0.length : Int) : Int).toNat z40) 0) else (none)) else (none)
theorem laws_toElemS.mono_l : ∀ k, (∀ y0 y1 y2, LeO (laws_toElemS.l0 k y0 y1 y2) (laws_toElemS.l0 (k + 1) y0 y1 y2))
  | 0 => fun _ _ _ r h => by simp [laws_toElemS.l0] at h
  | k + 1 => by
    have ih0 := laws_toElemS.mono_l k
    · intro y0 y1 y2
      unfold laws_toElemS.l0
      repeat' (with_reducible first | exact ih0 _ _ _ | exact laws_toElem.mono _ _ _ _ | exact LeO.refl _ | exact LeO.none _ | refine LeO.ite ?_ ?_ | refine LeO.bind ?_ (fun _ => ?_))
theorem laws_toElemS.mono : ∀ a0 k, LeO (laws_toElemS.f k a0) (laws_toElemS.f (k + 1) a0) := by
  intro a0 k
  have ih0 := laws_toElemS.mono_l k
  unfold laws_toElemS.f
  repeat' (with_reducible first | exact ih0 _ _ _ | exact laws_toElem.mono _ _ _ _ | exact LeO.refl _ | exact LeO.none _ | refine LeO.ite ?_ ?_ | refine LeO.bind ?_ (fun _ => ?_))
set_option maxHeartbeats 8000000 in
set_option maxRecDepth 100000 in
theorem laws_toElemS.calls (k : Nat) (A0 : Option Addr) (c0 : Nat) (l0 : List (S35)) (r : List (S40)) (w : World) (hr0 : Kd.C k35 w A0 l0.length l0) (hc0 : l0.length ≤ c0) (h : laws_toElemS.f k l0 = some r) :
    Calls Tryz.prog 6 #[.slice A0 l0.length c0] w fun e w' => ∃ v0_ : Value, e = .returned (v0_) ∧ Kd.S k40 40 w' w.heap.size (fun _ => True) v0_ r ∧ Below w.heap.size w w' := by
 have hu35 := Tryz.underlying35; have hu40 := Tryz.underlying40; have HR0 := a_ hr0; have HC0 := a_ hc0; clear hr0 hc0; have HB := a_ (Below.refl w.heap.size w); have H : (if 0 ≤ (l0.length : Int) then (if ((l0.length : Int) : Int).toNat ≤ 5864062014805 then (laws_toElemS.l0 k l0 (List.replicate ((l0.length : Int) : Int).toNat z40) 0) else (none)) else (none)) = some r := h; clear h; by_cases cx0 : 0 ≤ (l0.length : Int)
 ·rw [if_pos cx0] at H; have cx0b0 := eq_true cx0; have cx0b1 : decide (0 ≤ (l0.length : Int)) = true := decide_eq_true cx0; clear cx0; by_cases cx1 : ((l0.length : Int) : Int).toNat ≤ 5864062014805
  ·rw [if_pos cx1] at H; have cx1b0 := eq_true cx1; have cx1b1 : decide (((l0.length : Int) : Int).toNat ≤ 5864062014805) = true := decide_eq_true cx1; clear cx1; obtain ⟨y177, hy_⟩ : ∃ y_ : List (S40), y_ = (List.replicate ((l0.length : Int) : Int).toNat z40) := ⟨_, rfl⟩; replace H : (laws_toElemS.l0 k l0 y177 0) = some r := z0_; have Ny177 := a_ hy_; clear hy_; have H' := a_ H; clear H; go_enter Tryz.func6, Tryz.ntmps6
   go_wp2_with (first | ((with_reducible refine gate_dst (N := 7) rfl ?_); refine Kd.S_make k40 _ 40 rfl (N := 7) rfl 27 _ _ rfl (l0.length : Int) rfl rfl Tryz.underlying27 (.agg #[(.string ⟨#[]⟩), (.int .i64 0), (.slice none 0 0)]) 48 info40 rfl y48_ (by omega) z40 (ok := fun _ => True) (okp := fun _ => True) (k40_mkM _ _ _ z40 (Kd.R_nil _ _ _ _ _)) (fun _ hk => hk) trivial (of_decide_eq_true y3_) (Nat.le_trans (Nat.mul_le_mul_right _ (of_decide_eq_true y3_ : (l0.length : Int).toNat ≤ 5864062014805)) (by omega)) (Below.refl _ _) (Nat.le_refl _) ?_; intro v178 w4 ho5 hb hg_ hnew_; clear hg_ hnew_; (first | rw [← Ny177.out] at ho5 | (simp only [Int.reduceToNat] at ho5; rw [← Ny177.out] at ho5)); have n0_ := a_ (Kd.S_lower ho5 (below_size y0_)); have n1_ := a_ (below_step y0_ hb); clear HB; have HO179 := n0_; have HB := n1_; clear n0_ n1_; clear hb ho5))
   go_loopg [4] k (fun kq v4 w' => ∃ (x3_1 : List (S40)) (x4_1 : Int), v4 = .int .i64 x4_1 ∧ Aside0 (laws_toElemS.l0 kq l0 x3_1 x4_1 = some r) ∧ Aside0 (kq ≤ k) ∧ Aside0 (Kd.S k40 40 w' w.heap.size (fun _ => True) v178 x3_1) ∧ Aside0 (Below w.heap.size w w'))
   case atStart => exact ⟨(y177), (0), y2_, H', ⟨Nat.le_refl _⟩, ⟨by (with_reducible repeat (first | apply Kd.S_alloc | apply Kd.S_drewN | apply Kd.S_drew)); exact HO179.out⟩, ⟨y0_⟩⟩
   case round =>
    clear H'; (try clear cx0); (try clear cx0b0); (try clear cx0b1); (try clear cx1); (try clear cx1b0); (try clear cx1b1); obtain ⟨x3_1, x4_1, rfl, HA, HK1, HO_3, HB⟩ := hrel; cases gk with
    | zero => exact absurd HA.out (by simp [laws_toElemS.l0])
    | succ k1 =>
     have H := HA.out; clear HA; simp only [laws_toElemS.l0] at H; by_cases cx2 : x4_1 < (l0.length : Int)
     ·rw [if_pos cx2] at H; have cx2b0 : decide (x4_1 < (l0.length : Int)) = true := decide_eq_true cx2; clear cx2; by_cases cx3 : 0 ≤ x4_1
      ·rw [if_pos cx3] at H; have cx3b0 : decide (0 ≤ x4_1) = true := decide_eq_true cx3; clear cx3; replace H := Option.bind_eq_some_iff.mp H; obtain ⟨⟨t181, t182, t183⟩, A80, H⟩ := H; replace H : (if x4_1 < (x3_1.length : Int) then (laws_toElemS.l0 k1 l0 (x3_1.set (x4_1 : Int).toNat (⟨t181, t182, t183⟩ : S40)) (wrap64 (x4_1 + 1))) else (none)) = some r := H; have A8 := a_ A80; clear A80; by_cases cx4 : x4_1 < (x3_1.length : Int)
       ·rw [if_pos cx4] at H; have cx4b0 : decide (x4_1 < (x3_1.length : Int)) = true := decide_eq_true cx4; clear cx4; obtain ⟨y186, hy_⟩ : ∃ y_ : List (S40), y_ = (x3_1.set (x4_1 : Int).toNat (⟨t181, t182, t183⟩ : S40)) := ⟨_, rfl⟩; replace H : (laws_toElemS.l0 k1 l0 y186 (wrap64 (x4_1 + 1))) = some r := z0_; have Ny186 := a_ hy_; clear hy_; have H' := a_ H; clear H; have p180 : 0 ≤ (x4_1 : Int) := of_decide_eq_true y3_; have q180 : x4_1 < (l0.length : Int) := of_decide_eq_true y3_; obtain ⟨ad180, A180_2, c180_2, e180, hx180_0, hx180_1, hx180_2, hl180_2, hi180_2⟩ := at_T35 HR0.out x4_1 p180 q180; cases e180; replace hx180_0 := cT_ HB.out hx180_0; replace hx180_1 := cT_ HB.out hx180_1; replace hx180_2 := cT_ HB.out hx180_2; have HR180_2 := a_ hi180_2; have HC180_2 := a_ hl180_2; clear hi180_2 hl180_2; replace p180 := eq_true p180; replace q180 := eq_true q180
        go_wp2_with (first | ((with_reducible refine gate_callee (f := 14) rfl ?_); refine gc_ 14 20 Tryz.func14 #[.agg #[.string ((rd_T35 l0 x4_1).f0), .int .i64 ((rd_T35 l0 x4_1).f1), .slice A180_2 ((rd_T35 l0 x4_1).f2).length c180_2]] ?_; (with_reducible refine (laws_toElem.calls k1 ((rd_T35 l0 x4_1).f0) ((rd_T35 l0 x4_1).f1) _ _ ((rd_T35 l0 x4_1).f2) t181 t182 t183 _ ?side1 ?side2 A8.out).mono ?_); (case side1 => repeat (first | exact (Kd.C_below HR180_2.out HB.out) | (with_reducible refine Kd.C_alloc ?_ _) | (with_reducible refine Kd.C_drewN ?_ _) | (with_reducible refine Kd.C_drew ?_))); (case side2 => exact HC180_2.out); rintro e w11 ⟨v184, rfl, ho0, hb⟩; refine ⟨_, rfl, ?_⟩; have n0_ := a_ (Kd.S_elder' y70_ (Kd.R_base ho0) hb); have n1_ := a_ (Kd.R_lower ho0 (below_size y0_)); have n2_ := a_ (below_step y0_ hb); clear HO_3; clear HB; have HO_3 := n0_; have HO185 := n1_; have HB := n2_; clear n0_ n1_ n2_; (try clear hb); (try clear hb2); (try clear hk); (try clear hi); (try clear ho0); have p10 : 0 ≤ (x4_1 : Int) := of_decide_eq_true y3_; have q10 : (x4_1 : Int) < ((x3_1.length : Int) : Int) := of_decide_eq_true y3_; obtain ⟨go10, co10, eo10, gb10, gl10, cl10, HG10⟩ := Kd.S_form HO_3.out (by omega); (first | cases eo10 | (injection eo10 with ea_ en_ ec_; (first | subst ea_ | (injection ea_ with ea_; subst ea_)); subst ec_; clear en_)); have GB10 := a_ gb10; have GG10 := a_ HG10; clear gb10 gl10 HG10; obtain ⟨_, ce10, hcl10, hM10, hcc10, hfr10, _, _⟩ := Kd.S_elem HO_3.out z40 (x4_1 : Int) p10 q10; obtain ⟨ve10_2, rfl, ge10_2⟩ := k40_openM hM10; have hx10_0 : w11.cell? ⟨go10, (x4_1 : Int).toNat * 3, none⟩ = some (.string ((rd_T40 x3_1 x4_1).f0)) := hcc10 0 _ rfl; have hx10_1 : w11.cell? ⟨go10, (x4_1 : Int).toNat * 3 + 1, none⟩ = some (.int .i64 ((rd_T40 x3_1 x4_1).f1)) := hcc10 1 _ rfl; have hx10_2 : w11.cell? ⟨go10, (x4_1 : Int).toNat * 3 + 2, none⟩ = some (ve10_2) := hcc10 2 _ rfl; have hf10_0 : w11.frozen? ⟨go10, (x4_1 : Int).toNat * 3, none⟩ = false := hfr10 0; have hf10_1 : w11.frozen? ⟨go10, (x4_1 : Int).toNat * 3 + 1, none⟩ = false := hfr10 1; have hf10_2 : w11.frozen? ⟨go10, (x4_1 : Int).toNat * 3 + 2, none⟩ = false := hfr10 2; clear hcl10 hcc10 hfr10 hM10; replace p10 := eq_true p10; replace q10 := eq_true q10; obtain ⟨Ao12, co12, eo12⟩ := Kd.R_slice HO185.out; subst eo12; have n_ := a_ (Kd.S_mono (ok' := (fun k_ => some k_ ≠ (.slice Ao12 t183.length co12 : Value).ownBlock)) HO_3.out (fun k_ hk => hk.2)); clear HO_3; have HO_3 := n_; clear n_; have HX13 := a_ (show Kd.S k40 40 w11 w.heap.size (fun k_ => ((fun _ => True)) k_ ∧ ¬ ((fun k_ => some k_ = (.slice Ao12 t183.length co12 : Value).ownBlock)) k_) (.slice (some ⟨go10, 0, none⟩) x3_1.length co10) x3_1 from (by (with_reducible repeat (first | apply Kd.S_alloc | apply Kd.S_drewN | apply Kd.S_drew)); exact Kd.S_mono HO_3.out (fun k_ hk => ⟨trivial, fun e_ => hk e_⟩))); obtain ⟨oki13, ce13, hcl13, hM13, hcc13, hfr13, hoki13, hH13⟩ := Kd.S_elem HX13.out z40 (x4_1 : Int) (of_decide_eq_true y3_) (by have h_ : (x4_1 : Int) < ((x3_1.length : Int) : Int) := of_decide_eq_true y3_; first | exact h_ | (have e_ := (Kd.S_reads' HO_3.out).1; omega) | simpa using h_); obtain ⟨ve13_2, rfl, ge13_2⟩ := k40_openM hM13; have HP13 := Kd.S_seg hH13 (of_decide_eq_true y3_) (by have h_ : (x4_1 : Int) < ((x3_1.length : Int) : Int) := of_decide_eq_true y3_; first | exact h_ | (have e_ := (Kd.S_reads' HO_3.out).1; omega) | simpa using h_) (seg := [.string t181, .int .i64 t182, .slice Ao12 t183.length co12]) (j := 0) (show 3 ≤ 3 from by decide) (x' := (⟨t181, t182, t183⟩ : S40)) (k40_mkM _ _ _ (⟨t181, t182, t183⟩ : S40) (Kd.R_mono (Kd.R_tight rfl (Kd.R_mono (ok' := fun k_ => ((fun _ => True)) k_ ∧ k_ ≠ go10) (Kd.R_apart' (HO185.out) (Kd.S_typed HO_3.out) y48_) (fun k_ hk => ⟨trivial, fun e_ => (hk.2) (by rw [e_]; rfl)⟩))) (fun _ h_ => Or.inr (h_)))) (fun _ hk => hk) (fun k_ hk_ => ((Kd.R_mono (ok' := fun k_ => ((fun _ => True)) k_ ∧ k_ ≠ go10) (Kd.R_apart' (HO185.out) (Kd.S_typed HO_3.out) y48_) (fun k_ hk => ⟨trivial, fun e_ => (hk.2) (by rw [e_]; rfl)⟩))).1 k_ hk_.symm); have hx13_0 := hcc13 0 _ rfl; (try simp only [show (k40).sz = 3 from rfl, Nat.mul_one, Nat.add_zero] at hx13_0); have hf13_0 := hfr13 0; (try simp only [show (k40).sz = 3 from rfl, Nat.mul_one, Nat.add_zero] at hf13_0); have hx13_1 := hcc13 1 _ rfl; (try simp only [show (k40).sz = 3 from rfl, Nat.mul_one, Nat.add_zero] at hx13_1); have hf13_1 := hfr13 1; (try simp only [show (k40).sz = 3 from rfl, Nat.mul_one, Nat.add_zero] at hf13_1); have hx13_2 := hcc13 2 _ rfl; (try simp only [show (k40).sz = 3 from rfl, Nat.mul_one, Nat.add_zero] at hx13_2); have hf13_2 := hfr13 2; (try simp only [show (k40).sz = 3 from rfl, Nat.mul_one, Nat.add_zero] at hf13_2); clear hcl13 hcc13 hfr13 hM13 hoki13 hH13) | ((with_reducible refine gate_store (t := 40) (p := 21) rfl ?_); refine store_event (t := 40) (p := 21) (v := ?vo_w14) (w1 := (((w11.setCell ⟨go10, (x4_1 : Int).toNat * 3, none⟩ (.string t181)).setCell ⟨go10, (x4_1 : Int).toNat * 3 + 1, none⟩ (.int .i64 t182)).setCell ⟨go10, (x4_1 : Int).toNat * 3 + 2, none⟩ (.slice Ao12 t183.length co12))) ?hg ?ho ?hn ?hr ?_; (case ho => rfl); (case hg => rfl); (case hn => rfl); (case hr => first | (go_simp; done) | (go_simp; rfl)); intro w14 hw; have hg : w11.grownBy w14 (some go10) := (by rw [hw]; exact HP13.2); have hp_ : Kd.S k40 40 w14 w.heap.size (fun _ => True) (.slice (some ⟨go10, 0, none⟩) x3_1.length co10) y186 := (by rw [hw, Ny186.out]; exact HP13.1); clear HP13; have n0_ := a_ (hp_); have n1_ := a_ ((by rw [hw]; exact below_set (below_set (below_set (HB.out) GB10.out) GB10.out) GB10.out : Below w.heap.size w w14)); clear HO_3; clear HB; clear HO185; have HO_3 := n0_; have HB := n1_; clear n0_ n1_; clear hg hw hp_))
        go_roundg k1
        case measure => have := HK1.out; omega
        case rel => exact ⟨(y186), (wrap64 (x4_1 + 1)), y2_, H', ⟨y29_⟩, ⟨y70_⟩, ⟨y0_⟩⟩
       ·rw [if_neg cx4] at H; exact absurd H y50_
      ·rw [if_neg cx3] at H; exact absurd H y50_
     ·rw [if_neg cx2] at H; have cx2b0 : decide (x4_1 < (l0.length : Int)) = false := decide_eq_false cx2; clear cx2; obtain rfl := Option.some.inj H; go_wp2
      go_ret
      exact ⟨_, y6_, y70_, y0_⟩
  ·rw [if_neg cx1] at H; exact absurd H y50_
 ·rw [if_neg cx0] at H; exact absurd H y50_

/-! ### impl_inRange: function 28 -/
def impl_inRange.f (a0 : Int) (a1 : Int) (a2 : Int) : Option (Bool) := if a1 ≤ a0 then (some (decide (a0 ≤ a2))) else (some false)
set_option maxHeartbeats 8000000 in
set_option maxRecDepth 100000 in
theorem impl_inRange.calls (a0 : Int) (a1 : Int) (a2 : Int) (r : Bool) (w : World) (h : impl_inRange.f a0 a1 a2 = some r) :
    Calls Tryz.prog 28 #[.int .i64 a0, .int .i64 a1, .int .i64 a2] w fun e w' => e = .returned (.bool r) ∧ Drawn0 w w' := by
 have H : (if a1 ≤ a0 then (some (decide (a0 ≤ a2))) else (some false)) = some r := h; clear h; by_cases c4 : a1 ≤ a0
 ·rw [if_pos c4] at H; have c4b0 : decide (a1 ≤ a0) = true := decide_eq_true c4; clear c4; obtain rfl := Option.some.inj H; go_enter Tryz.func28, Tryz.ntmps28
  go_wp2
  go_ret
  exact ⟨y2_, y5_⟩
 ·rw [if_neg c4] at H; have c4b0 : decide (a1 ≤ a0) = false := decide_eq_false c4; clear c4; obtain rfl := Option.some.inj H; go_enter Tryz.func28, Tryz.ntmps28
  go_wp2
  go_ret
  exact ⟨y2_, y5_⟩

/-! ### impl_firstCode: function 29 -/
def impl_firstCode.l0 : Nat → List Int → Int → Int → Option (Int)
  | 0, _, _, _ => none
  | k + 1, x5, x6, x7 => if x7 < x6 then (if 0 ≤ x7 then (if x7 < (x5.length : Int) then (if (rd x5 x7) = 0 then (impl_firstCode.l0 k x5 x6 (wrap64 (x7 + 1))) else (some (rd x5 x7))) else (none)) else (none)) else (some 0)
def impl_firstCode.f (k : Nat) (l0 : List Int) : Option (Int) := impl_firstCode.l0 k l0 (l0.length : Int) 0
theorem impl_firstCode.mono_l : ∀ k, (∀ y0 y1 y2, LeO (impl_firstCode.l0 k y0 y1 y2) (impl_firstCode.l0 (k + 1) y0 y1 y2))
  | 0 => fun _ _ _ r h => by simp [impl_firstCode.l0] at h
  | k + 1 => by
    have ih0 := impl_firstCode.mono_l k
    · intro y0 y1 y2
      unfold impl_firstCode.l0
      repeat' (with_reducible first | exact ih0 _ _ _ | exact LeO.refl _ | exact LeO.none _ | refine LeO.ite ?_ ?_ | refine LeO.bind ?_ (fun _ => ?_))
theorem impl_firstCode.mono : ∀ a0 k, LeO (impl_firstCode.f k a0) (impl_firstCode.f (k + 1) a0) := by
  intro a0 k
  have ih0 := impl_firstCode.mono_l k
  unfold impl_firstCode.f
  repeat' (with_reducible first | exact ih0 _ _ _ | exact LeO.refl _ | exact LeO.none _ | refine LeO.ite ?_ ?_ | refine LeO.bind ?_ (fun _ => ?_))
set_option maxHeartbeats 8000000 in
set_option maxRecDepth 100000 in
theorem impl_firstCode.calls (k : Nat) (A0 : Option Addr) (c0 : Nat) (l0 : List Int) (r : Int) (w : World) (hr0 : Kd.C (Kd.int .i64) w A0 l0.length l0) (hc0 : l0.length ≤ c0) (h : impl_firstCode.f k l0 = some r) :
    Calls Tryz.prog 29 #[.slice A0 l0.length c0] w fun e w' => e = .returned (.int .i64 r) ∧ Drawn0 w w' := by
 have HR0 := a_ hr0; have HC0 := a_ hc0; clear hr0 hc0; have H : (impl_firstCode.l0 k l0 (l0.length : Int) 0) = some r := h; clear h; have H' := a_ H; clear H; go_enter Tryz.func29, Tryz.ntmps29
 go_wp2
 go_loopg [7] k (fun kq v7 w' => ∃ (x7_1 : Int), v7 = .int .i64 x7_1 ∧ Aside0 (impl_firstCode.l0 kq l0 (l0.length : Int) x7_1 = some r) ∧ Aside0 (kq ≤ k) ∧ Drawn0 w w')
 case atStart => exact ⟨(0), y2_, H', ⟨Nat.le_refl _⟩, y5_⟩
 case round =>
  clear H'; obtain ⟨x7_1, rfl, HA, HK1, ⟨m1, rfl⟩⟩ := hrel; cases gk with
  | zero => exact absurd HA.out (by simp [impl_firstCode.l0])
  | succ k1 =>
   have H := HA.out; clear HA; simp only [impl_firstCode.l0] at H; by_cases cx0 : x7_1 < (l0.length : Int); rw [if_pos cx0] at H; have cx0b0 : decide (x7_1 < (l0.length : Int)) = true := decide_eq_true cx0; clear cx0; by_cases cx1 : 0 ≤ x7_1; rw [if_pos cx1] at H; have cx1b0 : decide (0 ≤ x7_1) = true := decide_eq_true cx1; clear cx1; by_cases cx2 : x7_1 < (l0.length : Int); rw [if_pos cx2] at H; have cx2b0 : decide (x7_1 < (l0.length : Int)) = true := decide_eq_true cx2; clear cx2; by_cases cx3 : (rd l0 x7_1) = 0; rw [if_pos cx3] at H; have cx3b0 : ((rd l0 x7_1) == 0) = true := beq_iff_eq.mpr cx3; have cx3b1 : ((rd l0 x7_1) != 0) = false := bne_eq_false_iff_eq.mpr cx3; clear cx3; have H' := a_ H; clear H; have m0_0 := t_; have m0_1 := t_; rotate_left; rw [if_neg cx3] at H; have cx3b0 : ((rd l0 x7_1) == 0) = false := beq_eq_false_iff_ne.mpr cx3; have cx3b1 : ((rd l0 x7_1) != 0) = true := bne_iff_ne.mpr cx3; obtain rfl := Option.some.inj H; have m0_0 := t_; have m0_2 := t_; rotate_left
   ·rw [if_neg cx2] at H; exact absurd H y50_
   ·rw [if_neg cx1] at H; exact absurd H y50_
   rw [if_neg cx0] at H; have cx0b0 : decide (x7_1 < (l0.length : Int)) = false := decide_eq_false cx0; clear cx0; obtain rfl := Option.some.inj H; have m0_3 := t_; rotate_left
   all_goals (
    first
    | fail_if_success clear m0_0
    |(clear m0_0; have p9922068 : 0 ≤ (x7_1 : Int) := of_decide_eq_true y3_; have q9922068 : x7_1 < (l0.length : Int) := of_decide_eq_true y3_; obtain ⟨ad9922068, e9922068, hx9922068_0⟩ := Kd.at_int HR0.out x7_1 p9922068 q9922068; cases e9922068; replace p9922068 := eq_true p9922068; replace q9922068 := eq_true q9922068; go_wp2)
    first
    | fail_if_success clear m0_1
    |(clear m0_1; go_roundg k1
      case measure => have := HK1.out; omega
      case rel => exact ⟨(wrap64 (x7_1 + 1)), y2_, H', ⟨y29_⟩, y5_⟩)
    first
    | fail_if_success clear m0_2
    |(clear m0_2; go_ret
      exact ⟨y2_, y5_⟩)
    first
    | fail_if_success clear m0_3
    |(clear m0_3; go_wp2
      go_ret
      exact ⟨y2_, y5_⟩))

/-! ### impl_codeIf: function 32 -/
def impl_codeIf.f (a0 : Bool) (a1 : Int) : Option (Int) := if a0 = true then (some a1) else (some 0)
set_option maxHeartbeats 8000000 in
set_option maxRecDepth 100000 in
theorem impl_codeIf.calls (a0 : Bool) (a1 : Int) (r : Int) (w : World) (h : impl_codeIf.f a0 a1 = some r) :
    Calls Tryz.prog 32 #[.bool a0, .int .i64 a1] w fun e w' => e = .returned (.int .i64 r) ∧ Drawn0 w w' := by
 have H : (if a0 = true then (some a1) else (some 0)) = some r := h; clear h; by_cases c3 : a0 = true
 ·subst c3; rw [if_pos rfl] at H; obtain rfl := Option.some.inj H; go_enter Tryz.func32, Tryz.ntmps32
  go_wp2
  go_ret
  exact ⟨y2_, y5_⟩
 ·replace c3 := Bool.eq_false_iff.mpr c3; subst c3; rw [if_neg (show ¬ (false = true) by decide)] at H; obtain rfl := Option.some.inj H; go_enter Tryz.func32, Tryz.ntmps32
  go_wp2
  go_ret
  exact ⟨y2_, y5_⟩

/-! ### impl_isSmall: function 43 -/
def impl_isSmall.f (a0 : Int) : Option (Bool) := if a0 ≥ 97 then (some (decide (a0 ≤ 122))) else (some false)
set_option maxHeartbeats 8000000 in
set_option maxRecDepth 100000 in
theorem impl_isSmall.calls (a0 : Int) (r : Bool) (w : World) (h : impl_isSmall.f a0 = some r) :
    Calls Tryz.prog 43 #[.int .u8 a0] w fun e w' => e = .returned (.bool r) ∧ Drawn0 w w' := by
 have H : (if a0 ≥ 97 then (some (decide (a0 ≤ 122))) else (some false)) = some r := h; clear h; by_cases c2 : a0 ≥ 97
 ·rw [if_pos c2] at H; have c2b0 : decide (97 ≤ a0) = true := decide_eq_true c2; clear c2; obtain rfl := Option.some.inj H; go_enter Tryz.func43, Tryz.ntmps43
  go_wp2
  go_ret
  exact ⟨y2_, y5_⟩
 ·rw [if_neg c2] at H; have c2b0 : decide (97 ≤ a0) = false := decide_eq_false c2; clear c2; obtain rfl := Option.some.inj H; go_enter Tryz.func43, Tryz.ntmps43
  go_wp2
  go_ret
  exact ⟨y2_, y5_⟩

/-! ### impl_areAll__impl_isSmall: function 140 -/
def impl_areAll__impl_isSmall.l0 : Nat → ByteArray → Int → Int → Option (Bool)
  | 0, _, _, _ => none
  | k + 1, x0, x7, x8 => if x8 < x7 then (if 0 ≤ x8 then (if x8 < (x0.size : Int) then ((impl_isSmall.f (bt x0 x8)).bind fun t188 => (if t188 = true then (impl_areAll__impl_isSmall.l0 k x0 x7 (wrap64 (x8 + 1))) else (some false))) else (none)) else (none)) else (some true)
def impl_areAll__impl_isSmall.f (k : Nat) (a0 : ByteArray)  : Option (Bool) := impl_areAll__impl_isSmall.l0 k a0 (a0.size : Int) 0
theorem impl_areAll__impl_isSmall.mono_l : ∀ k, (∀ y0 y1 y2, LeO (impl_areAll__impl_isSmall.l0 k y0 y1 y2) (impl_areAll__impl_isSmall.l0 (k + 1) y0 y1 y2))
  | 0 => fun _ _ _ r h => by simp [impl_areAll__impl_isSmall.l0] at h
  | k + 1 => by
    have ih0 := impl_areAll__impl_isSmall.mono_l k
    · intro y0 y1 y2
      unfold impl_areAll__impl_isSmall.l0
      repeat' (with_reducible first | exact ih0 _ _ _ | exact LeO.refl _ | exact LeO.none _ | refine LeO.ite ?_ ?_ | refine LeO.bind ?_ (fun _ => ?_))
theorem impl_areAll__impl_isSmall.mono : ∀ a0 k, LeO (impl_areAll__impl_isSmall.f k a0) (impl_areAll__impl_isSmall.f (k + 1) a0) := by
  intro a0 k
  have ih0 := impl_areAll__impl_isSmall.mono_l k
  unfold impl_areAll__impl_isSmall.f
  repeat' (with_reducible first | exact ih0 _ _ _ | exact LeO.refl _ | exact LeO.none _ | refine LeO.ite ?_ ?_ | refine LeO.bind ?_ (fun _ => ?_))
set_option maxHeartbeats 8000000 in
set_option maxRecDepth 100000 in
theorem impl_areAll__impl_isSmall.calls (k : Nat) (a0 : ByteArray)  (r : Bool) (w : World) (h : impl_areAll__impl_isSmall.f k a0 = some r) :
    Calls Tryz.prog 42 #[.string a0, .func (.func 43) #[] #[]] w fun e w' => e = .returned (.bool r) ∧ Drawn0 w w' := by
 have H : (impl_areAll__impl_isSmall.l0 k a0 (a0.size : Int) 0) = some r := h; clear h; have H' := a_ H; clear H; go_enter Tryz.func42, Tryz.ntmps42
 go_wp2
 go_loopg [8] k (fun kq v8 w' => ∃ (x8_1 : Int), v8 = .int .i64 x8_1 ∧ Aside0 (impl_areAll__impl_isSmall.l0 kq a0 (a0.size : Int) x8_1 = some r) ∧ Aside0 (kq ≤ k) ∧ Drawn0 w w')
 case atStart => exact ⟨(0), y2_, H', ⟨Nat.le_refl _⟩, y5_⟩
 case round =>
  clear H'; obtain ⟨x8_1, rfl, HA, HK1, ⟨m1, rfl⟩⟩ := hrel; cases gk with
  | zero => exact absurd HA.out (by simp [impl_areAll__impl_isSmall.l0])
  | succ k1 =>
   have H := HA.out; clear HA; simp only [impl_areAll__impl_isSmall.l0] at H; by_cases cx0 : x8_1 < (a0.size : Int); rw [if_pos cx0] at H; have cx0b0 : decide (x8_1 < (a0.size : Int)) = true := decide_eq_true cx0; clear cx0; by_cases cx1 : 0 ≤ x8_1; rw [if_pos cx1] at H; have cx1b0 : decide (0 ≤ x8_1) = true := decide_eq_true cx1; clear cx1; by_cases cx2 : x8_1 < (a0.size : Int); rw [if_pos cx2] at H; have cx2b0 : decide (x8_1 < (a0.size : Int)) = true := decide_eq_true cx2; clear cx2; replace H := Option.bind_eq_some_iff.mp H; obtain ⟨tx3, Ay3, H⟩ := H; have Ax3 := a_ Ay3; clear Ay3; by_cases cx4 : tx3 = true; subst cx4; rw [if_pos rfl] at H; have H' := a_ H; clear H; have m0_0 := t_; have m0_1 := t_; rotate_left; replace cx4 := Bool.eq_false_iff.mpr cx4; subst cx4; rw [if_neg (show ¬ (false = true) by decide)] at H; obtain rfl := Option.some.inj H; have m0_0 := t_; have m0_2 := t_; rotate_left
   ·rw [if_neg cx2] at H; exact absurd H y50_
   ·rw [if_neg cx1] at H; exact absurd H y50_
   rw [if_neg cx0] at H; have cx0b0 : decide (x8_1 < (a0.size : Int)) = false := decide_eq_false cx0; clear cx0; obtain rfl := Option.some.inj H; have m0_3 := t_; rotate_left
   all_goals (
    first
    | fail_if_success clear m0_0
    |(clear m0_0; have p9922068 : 0 ≤ (x8_1 : Int) := of_decide_eq_true y3_; have q9922068 : x8_1 < (a0.size : Int) := of_decide_eq_true y3_; have hx9922068 := bt_at a0 x8_1; replace p9922068 := eq_true p9922068; replace q9922068 := eq_true q9922068; go_wp2_with (first | ((with_reducible refine gate_dyn (t := 11) rfl ?_); refine goesV_ (some 15) rfl rfl Tryz.func43 y23_ rfl #[.int .u8 (bt a0 x8_1)] rfl (by (try simp only [List.map_toArray, List.map_cons, List.map_nil]); first | done | rfl | (simp only [List.length_drop, List.length_take]; rfl) | (go_simp; done) | (simp [Act.eval, bne]; done)) ?_; (with_reducible refine (impl_isSmall.calls (bt a0 x8_1) _ _ Ax3.out).mono ?_); rintro e w' ⟨rfl, ⟨nd, rfl⟩⟩; refine ⟨_, rfl, ?_⟩)))
    first
    | fail_if_success clear m0_1
    |(clear m0_1; go_roundg k1
      case measure => have := HK1.out; omega
      case rel => exact ⟨(wrap64 (x8_1 + 1)), y2_, H', ⟨y29_⟩, y5_⟩)
    first
    | fail_if_success clear m0_2
    |(clear m0_2; go_ret
      exact ⟨y2_, y5_⟩)
    first
    | fail_if_success clear m0_3
    |(clear m0_3; go_wp2
      go_ret
      exact ⟨y2_, y5_⟩))

end Go.Proofs.YthoamjobclfjjaaGreat.R
