-- Written by a program of this session's own (xp.py) for this seat.
import Derived.Test.YtcpcenhpmcfmjaaLZ
import Derived.Test.YtcpcenhpmcfmjaaL0
namespace Go.Proofs.Ytcpcenhpmcfmjaa.L
open Go.RowKit Go.Proofs.YtcpcenhpmcfmjaaW.PrintWords Go.Proofs.YtcpcenhpmcfmjaaW.PrintLast Go.Proofs.YtcpcenhpmcfmjaaW.PrintMore
attribute [local go_sem] Instr.field asAgg
attribute [local go_sem] max2_int min2_int max_two min_two max_three min_three max_four min_four   -- for this text's walks alone
set_option linter.unusedVariables false
set_option linter.unusedSimpArgs false

/-! ### spec_l4Kids: function 119 -/
def spec_l4Kids.l0 : Nat → List (S78) → Int → List Int → Int → Option (List Int)
  | 0, _, _, _, _ => none
  | k + 1, x0, x1, x5, x6 => if x6 < (x0.length : Int) then (if 0 ≤ x6 then (if ((rd_T78 x0 x6).f1) = x1 then (if x5.length < 17592186044416 then (spec_l4Kids.l0 k x0 x1 (x5 ++ [x6]) (wrap64 (x6 + 1))) else (none)) else (spec_l4Kids.l0 k x0 x1 x5 (wrap64 (x6 + 1)))) else (none)) else (some x5)
def spec_l4Kids.f (k : Nat) (l0 : List (S78)) (a1 : Int) : Option (List Int) := spec_l4Kids.l0 k l0 a1 (([] : List Int)) 0
theorem spec_l4Kids.mono_l : ∀ k, (∀ y0 y1 y2 y3, LeO (spec_l4Kids.l0 k y0 y1 y2 y3) (spec_l4Kids.l0 (k + 1) y0 y1 y2 y3))
  | 0 => fun _ _ _ _ r h => by simp [spec_l4Kids.l0] at h
  | k + 1 => by
    have ih0 := spec_l4Kids.mono_l k
    · intro y0 y1 y2 y3
      unfold spec_l4Kids.l0
      repeat' (with_reducible first | exact ih0 _ _ _ _ | exact LeO.refl _ | exact LeO.none _ | refine LeO.ite ?_ ?_ | refine LeO.bind ?_ (fun _ => ?_))
theorem spec_l4Kids.mono : ∀ a0 a1 k, LeO (spec_l4Kids.f k a0 a1) (spec_l4Kids.f (k + 1) a0 a1) := by
  intro a0 a1 k
  have ih0 := spec_l4Kids.mono_l k
  unfold spec_l4Kids.f
  repeat' (with_reducible first | exact ih0 _ _ _ _ | exact LeO.refl _ | exact LeO.none _ | refine LeO.ite ?_ ?_ | refine LeO.bind ?_ (fun _ => ?_))
set_option maxHeartbeats 8000000 in
set_option maxRecDepth 100000 in
theorem spec_l4Kids.calls (k : Nat) (A0 : Option Addr) (c0 : Nat) (l0 : List (S78)) (a1 : Int) (r : List Int) (w : World) (hr0 : Kd.C k78 w A0 l0.length l0) (hc0 : l0.length ≤ c0) (h : spec_l4Kids.f k l0 a1 = some r) :
    Calls Try.prog 119 #[.slice A0 l0.length c0, .int .i64 a1] w fun e w' => ∃ v0_ : Value, e = .returned (v0_) ∧ Kd.R (Kd.int .i64) 2 w' w.heap.size (fun _ => True) v0_ r ∧ Below w.heap.size w w' := by
 have HR0 := a_ hr0; have HC0 := a_ hc0; clear hr0 hc0; have HB := a_ (Below.refl w.heap.size w); have H : (spec_l4Kids.l0 k l0 a1 (([] : List Int)) 0) = some r := h; clear h; obtain ⟨y229, hy_⟩ : ∃ y_ : List Int, y_ = (([] : List Int)) := ⟨_, rfl⟩; replace H : (spec_l4Kids.l0 k l0 a1 y229 0) = some r := z0_; have Ny229 := a_ hy_; clear hy_; have H' := a_ H; clear H; go_enter Try.func119, Try.ntmps119
 go_wp2_with (first | ((with_reducible refine gate_dst (N := 7) rfl ?_); refine Kd.R_lit (Kd.int .i64) _ 2 ?hg (N := 7) ?hd (xs := ([] : List Int)) (inner := []) (ok := fun _ => True) (okp := fun _ => True) ?hr ?hp (fun _ hk => hk) trivial (Below.refl _ _) (Nat.le_refl _) y92_ ?_; (case hd => rfl); (case hg => rfl); (case hr => first | (go_simp; done) | (go_simp; rfl)); (case hp => exact (Reps.none _ _)); intro v230 w3 ho4 hb hg_ hnew_; clear hg_ hnew_; (first | rw [← Ny229.out] at ho4 | (simp only [Int.reduceToNat] at ho4; rw [← Ny229.out] at ho4)); have n0_ := a_ (Kd.R_lower ho4 (below_size y0_)); have n1_ := a_ (below_step y0_ hb); clear HB; have HO231 := n0_; have HB := n1_; clear n0_ n1_; clear hb ho4))
 go_loopg [5, 6] k (fun kq v5 v6 w' => ∃ (x5_1 : List Int) (x6_1 : Int), v6 = .int .i64 x6_1 ∧ Aside0 (spec_l4Kids.l0 kq l0 a1 x5_1 x6_1 = some r) ∧ Aside0 (kq ≤ k) ∧ Aside0 (Kd.R (Kd.int .i64) 2 w' w.heap.size (fun _ => True) v5 x5_1) ∧ Aside0 (Below w.heap.size w w'))
 case atStart => exact ⟨(y229), (0), y1_, H', ⟨Nat.le_refl _⟩, ⟨by (with_reducible repeat (first | apply Kd.R_alloc | apply Kd.R_drewN | apply Kd.R_drew)); exact HO231.out⟩, ⟨y0_⟩⟩
 case round =>
  clear H'; obtain ⟨x5_1, x6_1, rfl, HA, HK1, HO_5, HB⟩ := hrel; cases gk with
  | zero => exact absurd HA.out (by simp [spec_l4Kids.l0])
  | succ k1 =>
   have H := HA.out; clear HA; simp only [spec_l4Kids.l0] at H; by_cases cx0 : x6_1 < (l0.length : Int); rw [if_pos cx0] at H; have cx0b0 : decide (x6_1 < (l0.length : Int)) = true := decide_eq_true cx0; clear cx0; by_cases cx1 : 0 ≤ x6_1; rw [if_pos cx1] at H; have cx1b0 : decide (0 ≤ x6_1) = true := decide_eq_true cx1; clear cx1; by_cases cx2 : ((rd_T78 l0 x6_1).f1) = a1; rw [if_pos cx2] at H; have cx2b0 : (((rd_T78 l0 x6_1).f1) == a1) = true := beq_iff_eq.mpr cx2; have cx2b1 : (((rd_T78 l0 x6_1).f1) != a1) = false := bne_eq_false_iff_eq.mpr cx2; clear cx2; by_cases cx3 : x5_1.length < 17592186044416; rw [if_pos cx3] at H; have LMcx3 := a_ cx3; clear cx3; obtain ⟨y233, hy_⟩ : ∃ y_ : List Int, y_ = (x5_1 ++ [x6_1]) := ⟨_, rfl⟩; replace H : (spec_l4Kids.l0 k1 l0 a1 y233 (wrap64 (x6_1 + 1))) = some r := z0_; have Ny233 := a_ hy_; clear hy_; have H' := a_ H; clear H; have m0_0 := t_; have m0_1 := t_; rotate_left
   ·rw [if_neg cx3] at H; exact absurd H y92_
   rw [if_neg cx2] at H; have cx2b0 : (((rd_T78 l0 x6_1).f1) == a1) = false := beq_eq_false_iff_ne.mpr cx2; have cx2b1 : (((rd_T78 l0 x6_1).f1) != a1) = true := bne_iff_ne.mpr cx2; have H' := a_ H; clear H; have m0_0 := t_; have m0_2 := t_; rotate_left
   ·rw [if_neg cx1] at H; exact absurd H y92_
   rw [if_neg cx0] at H; have cx0b0 : decide (x6_1 < (l0.length : Int)) = false := decide_eq_false cx0; clear cx0; obtain rfl := Option.some.inj H; have m0_3 := t_; rotate_left
   all_goals (
    first
    | fail_if_success clear m0_0
    |(clear m0_0; have p9922068 : 0 ≤ (x6_1 : Int) := of_decide_eq_true y2_; have q9922068 : x6_1 < (l0.length : Int) := of_decide_eq_true y2_; obtain ⟨ad9922068, A232_4, c232_4, A232_5, c232_5, e9922068, hx9922068_0, hx9922068_1, hx9922068_2, hx9922068_3, hx9922068_4, hx9922068_5, hl9922068_4, hi232_4, hl9922068_5, hi232_5⟩ := at_T78 HR0.out x6_1 p9922068 q9922068; cases e9922068; replace hx9922068_0 := cT_ HB.out hx9922068_0; replace hx9922068_1 := cT_ HB.out hx9922068_1; replace hx9922068_2 := cT_ HB.out hx9922068_2; replace hx9922068_3 := cT_ HB.out hx9922068_3; replace hx9922068_4 := cT_ HB.out hx9922068_4; replace hx9922068_5 := cT_ HB.out hx9922068_5; have HR232_4 := a_ hi232_4; have HC232_4 := a_ hl9922068_4; clear hi232_4 hl9922068_4; have HR232_5 := a_ hi232_5; have HC232_5 := a_ hl9922068_5; clear hi232_5 hl9922068_5; replace p9922068 := eq_true p9922068; replace q9922068 := eq_true q9922068)
    first
    | fail_if_success clear m0_1
    |(clear m0_1; go_wp2_with (first | ((with_reducible refine gate_builtin (b := .append) (xs := #[.tmp 21, .tmp 23]) rfl ?_); at_builtin; refine Kd.R_append (Kd.int .i64) (w0 := w) w.heap.size rfl (.tmp 21) (.tmp 23) 27 2 (.int .i64 0) 8 rfl Try.underlying27 info2 rfl y37_ y136_ u5 x5_1 x6_1 [.int .i64 x6_1] (fun _ => True) (fun _ => False) rfl rfl ?aP (fun _ hk => hk.elim) ?aF ?aO ?aB ?aS ?aL ?_; (case aP => exact rfl); (case aB => exact y0_); (case aF => exact (fun _ _ => trivial)); (case aO => exact y63_); (case aS => exact (below_size y0_)); (case aL => have := LMcx3.out; omega); intro v9997075 w9091474 ho hb hg hat; rw [← Ny233.out] at ho; have n0_ := a_ (hb); have n1_ := a_ (ho); clear HB; clear HO_5; have HB := n0_; have HO9174273 := n1_; clear n0_ n1_; clear ho hb hg hat))
      go_roundg k1
      case measure => have := HK1.out; omega
      case rel => exact ⟨(y233), (wrap64 (x6_1 + 1)), y1_, H', ⟨y85_⟩, ⟨by (with_reducible repeat (first | apply Kd.R_alloc | apply Kd.R_drewN | apply Kd.R_drew)); exact HO9174273.out⟩, ⟨y0_⟩⟩)
    first
    | fail_if_success clear m0_2
    |(clear m0_2; go_wp2
      go_roundg k1
      case measure => have := HK1.out; omega
      case rel => exact ⟨(x5_1), (wrap64 (x6_1 + 1)), y1_, H', ⟨y85_⟩, ⟨y63_⟩, ⟨y0_⟩⟩)
    first
    | fail_if_success clear m0_3
    |(clear m0_3; go_wp2
      go_ret
      exact ⟨_, y3_, y63_, y0_⟩))

/-! ### spec_l4Needs: function 120 -/
def spec_l4Needs.f (k : Nat) (l0 : List (S78)) (a1 : Int) : Option (Bool) := if 0 ≤ a1 then (if a1 < (l0.length : Int) then (if ((rd_T78 l0 a1).f1) < 0 then (some false) else (if 0 ≤ ((rd_T78 l0 a1).f1) then (if ((rd_T78 l0 a1).f1) < (l0.length : Int) then (if ((rd_T78 l0 ((rd_T78 l0 a1).f1)).f0) = 3 then ((spec_l4Kids.f k l0 ((rd_T78 l0 a1).f1)).bind fun t238 => (if 0 ≤ (wrap64 ((t238.length : Int) - 1)) then (if (wrap64 ((t238.length : Int) - 1)) < (t238.length : Int) then (some ((rd t238 (wrap64 ((t238.length : Int) - 1))) != a1)) else (none)) else (none))) else (some false)) else (none)) else (none))) else (none)) else (none)
theorem spec_l4Needs.mono : ∀ a0 a1 k, LeO (spec_l4Needs.f k a0 a1) (spec_l4Needs.f (k + 1) a0 a1) := by
  intro a0 a1 k
  unfold spec_l4Needs.f
  repeat' (with_reducible first | exact spec_l4Kids.mono _ _ _ | exact LeO.refl _ | exact LeO.none _ | refine LeO.ite ?_ ?_ | refine LeO.bind ?_ (fun _ => ?_))
set_option maxHeartbeats 8000000 in
set_option maxRecDepth 100000 in
theorem spec_l4Needs.calls (k : Nat) (A0 : Option Addr) (c0 : Nat) (l0 : List (S78)) (a1 : Int) (r : Bool) (w : World) (hr0 : Kd.C k78 w A0 l0.length l0) (hc0 : l0.length ≤ c0) (h : spec_l4Needs.f k l0 a1 = some r) :
    Calls Try.prog 120 #[.slice A0 l0.length c0, .int .i64 a1] w fun e w' => e = .returned (.bool r) ∧ Below w.heap.size w w' := by
 have HR0 := a_ hr0; have HC0 := a_ hc0; clear hr0 hc0; have HB := a_ (Below.refl w.heap.size w); have H : (if 0 ≤ a1 then (if a1 < (l0.length : Int) then (if ((rd_T78 l0 a1).f1) < 0 then (some false) else (if 0 ≤ ((rd_T78 l0 a1).f1) then (if ((rd_T78 l0 a1).f1) < (l0.length : Int) then (if ((rd_T78 l0 ((rd_T78 l0 a1).f1)).f0) = 3 then ((spec_l4Kids.f k l0 ((rd_T78 l0 a1).f1)).bind fun t238 => (if 0 ≤ (wrap64 ((t238.length : Int) - 1)) then (if (wrap64 ((t238.length : Int) - 1)) < (t238.length : Int) then (some ((rd t238 (wrap64 ((t238.length : Int) - 1))) != a1)) else (none)) else (none))) else (some false)) else (none)) else (none))) else (none)) else (none)) = some r := h; clear h; by_cases cx0 : 0 ≤ a1; rw [if_pos cx0] at H; have cx0b0 : decide (0 ≤ a1) = true := decide_eq_true cx0; clear cx0; by_cases cx1 : a1 < (l0.length : Int); rw [if_pos cx1] at H; have cx1b0 : decide (a1 < (l0.length : Int)) = true := decide_eq_true cx1; clear cx1; by_cases cx2 : ((rd_T78 l0 a1).f1) < 0; rw [if_pos cx2] at H; have cx2b0 : decide (((rd_T78 l0 a1).f1) < 0) = true := decide_eq_true cx2; clear cx2; obtain rfl := Option.some.inj H; have m0_0 := t_; rotate_left; rw [if_neg cx2] at H; have cx2b0 : decide (((rd_T78 l0 a1).f1) < 0) = false := decide_eq_false cx2; clear cx2; by_cases cx3 : 0 ≤ ((rd_T78 l0 a1).f1); rw [if_pos cx3] at H; have cx3b0 : decide (0 ≤ ((rd_T78 l0 a1).f1)) = true := decide_eq_true cx3; clear cx3; by_cases cx4 : ((rd_T78 l0 a1).f1) < (l0.length : Int); rw [if_pos cx4] at H; have cx4b0 : decide (((rd_T78 l0 a1).f1) < (l0.length : Int)) = true := decide_eq_true cx4; clear cx4; by_cases cx5 : ((rd_T78 l0 ((rd_T78 l0 a1).f1)).f0) = 3; rw [if_pos cx5] at H; have cx5b0 : (((rd_T78 l0 ((rd_T78 l0 a1).f1)).f0) == 3) = true := beq_iff_eq.mpr cx5; have cx5b1 : (((rd_T78 l0 ((rd_T78 l0 a1).f1)).f0) != 3) = false := bne_eq_false_iff_eq.mpr cx5; clear cx5; replace H := Option.bind_eq_some_iff.mp H; obtain ⟨tx6, Ay6, H⟩ := H; have Ax6 := a_ Ay6; clear Ay6; obtain ⟨ji10, hji10⟩ : ∃ j_ : Int, (wrap64 ((tx6.length : Int) - 1)) = j_ := ⟨_, rfl⟩; replace H : (if 0 ≤ (ji10) then (if (ji10) < (tx6.length : Int) then (some ((rd tx6 (ji10)) != a1)) else (none)) else (none)) = some r := by first | (rw [hji10] at H; exact H) | (simp only [hji10] at H ⊢; exact H)
 (try rw [hji10] at Ax6); have hji10w : (IntKind.i64.wrap ((tx6.length : Int) - 1)) = ji10 := (i64_w _).trans hji10; by_cases cx7 : 0 ≤ (ji10); rw [if_pos cx7] at H; have cx7b0 : decide (0 ≤ (ji10)) = true := decide_eq_true cx7; clear cx7; by_cases cx8 : (ji10) < (tx6.length : Int); rw [if_pos cx8] at H; have cx8b0 : decide ((ji10) < (tx6.length : Int)) = true := decide_eq_true cx8; clear cx8; obtain rfl := Option.some.inj H; have m0_1 := t_; have m0_2 := t_; rotate_left
 ·rw [if_neg cx8] at H; exact absurd H y92_
 ·rw [if_neg cx7] at H; exact absurd H y92_
 rw [if_neg cx5] at H; have cx5b0 : (((rd_T78 l0 ((rd_T78 l0 a1).f1)).f0) == 3) = false := beq_eq_false_iff_ne.mpr cx5; have cx5b1 : (((rd_T78 l0 ((rd_T78 l0 a1).f1)).f0) != 3) = true := bne_iff_ne.mpr cx5; obtain rfl := Option.some.inj H; have m0_1 := t_; have m0_3 := t_; rotate_left
 ·rw [if_neg cx4] at H; exact absurd H y92_
 ·rw [if_neg cx3] at H; exact absurd H y92_
 ·rw [if_neg cx1] at H; exact absurd H y92_
 ·rw [if_neg cx0] at H; exact absurd H y92_
 all_goals (
  have p9922068 : 0 ≤ (a1 : Int) := of_decide_eq_true y2_; have q9922068 : a1 < (l0.length : Int) := of_decide_eq_true y2_; obtain ⟨ad9922068, A236_4, c236_4, A236_5, c236_5, e9922068, hx9922068_0, hx9922068_1, hx9922068_2, hx9922068_3, hx9922068_4, hx9922068_5, hl9922068_4, hi236_4, hl9922068_5, hi236_5⟩ := at_T78 HR0.out a1 p9922068 q9922068; cases e9922068; have HR236_4 := a_ hi236_4; have HC236_4 := a_ hl9922068_4; clear hi236_4 hl9922068_4; have HR236_5 := a_ hi236_5; have HC236_5 := a_ hl9922068_5; clear hi236_5 hl9922068_5; replace p9922068 := eq_true p9922068; replace q9922068 := eq_true q9922068
  first
  | fail_if_success clear m0_0
  |(clear m0_0; go_enter Try.func120, Try.ntmps120
    go_wp2
    go_ret
    exact ⟨y3_, y0_⟩)
  first
  | fail_if_success clear m0_1
  |(clear m0_1; have p9548309 : 0 ≤ (((rd_T78 l0 a1).f1) : Int) := of_decide_eq_true y2_; have q9548309 : ((rd_T78 l0 a1).f1) < (l0.length : Int) := of_decide_eq_true y2_; obtain ⟨ad9548309, A237_4, c237_4, A237_5, c237_5, e9548309, hx9548309_0, hx9548309_1, hx9548309_2, hx9548309_3, hx9548309_4, hx9548309_5, hl9548309_4, hi237_4, hl9548309_5, hi237_5⟩ := at_T78 HR0.out ((rd_T78 l0 a1).f1) p9548309 q9548309; obtain rfl : ad9922068 = ad9548309 := (by injection e9548309); have HR237_4 := a_ hi237_4; have HC237_4 := a_ hl9548309_4; clear hi237_4 hl9548309_4; have HR237_5 := a_ hi237_5; have HC237_5 := a_ hl9548309_5; clear hi237_5 hl9548309_5; replace p9548309 := eq_true p9548309; replace q9548309 := eq_true q9548309; go_enter Try.func120, Try.ntmps120)
  first
  | fail_if_success clear m0_2
  |(clear m0_2; go_wp2_with (first | (refine gc_ 119 24 Try.func119 #[.slice (some ad9922068) l0.length c0, .int .i64 ((rd_T78 l0 a1).f1)] ?_; (with_reducible refine (spec_l4Kids.calls k _ _ l0 ((rd_T78 l0 a1).f1) tx6 _ ?side1 ?side2 Ax6.out).mono ?_); (case side1 => repeat (first | exact HR0.out | (with_reducible refine Kd.C_alloc ?_ _) | (with_reducible refine Kd.C_drewN ?_ _) | (with_reducible refine Kd.C_drew ?_))); (case side2 => exact HC0.out); rintro e w9741249 ⟨v9216468, rfl, ho0, hb⟩; refine ⟨_, rfl, ?_⟩; have n0_ := a_ (Kd.R_lower ho0 (below_size y0_)); have n1_ := a_ (below_step y0_ hb); clear HB; have HO9294414 := n0_; have HB := n1_; clear n0_ n1_; (try clear hb); (try clear hb9609262); (try clear hk); (try clear hi); (try clear ho0); obtain ⟨Ao9256919, co9256919, eo9256919⟩ := Kd.R_slice HO9294414.out; subst eo9256919; have p9487938 : 0 ≤ ((ji10) : Int) := of_decide_eq_true y2_; have q9487938 : (ji10) < (tx6.length : Int) := of_decide_eq_true y2_; obtain ⟨ad9487938, e9487938, hx9487938_0⟩ := Kd.at_int (Kd.R_reads' HO9294414.out).2.2 (ji10) p9487938 q9487938; cases e9487938; replace p9487938 := eq_true p9487938; replace q9487938 := eq_true q9487938))
    go_ret
    exact ⟨by first | rfl | (simp [errW_none, errW_some] <;> rfl) | (simp only [← hji10]; first | rfl | (simp [errW_none, errW_some] <;> rfl)) | (simp [*, errW_none, errW_some] <;> rfl), y0_⟩)
  first
  | fail_if_success clear m0_3
  |(clear m0_3; go_wp2
    go_ret
    exact ⟨y3_, y0_⟩))

end Go.Proofs.Ytcpcenhpmcfmjaa.L
