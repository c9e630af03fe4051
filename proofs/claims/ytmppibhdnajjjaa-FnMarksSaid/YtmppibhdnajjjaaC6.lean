-- Written by a program of this session's own (xp.py) for this seat.
import Derived.Test.YtmppibhdnajjjaaCZ
import Derived.Test.YtmppibhdnajjjaaCH
import Derived.Test.YtmppibhdnajjjaaC0
import Derived.Test.YtmppibhdnajjjaaC1
import Derived.Test.YtmppibhdnajjjaaC2
import Derived.Test.YtmppibhdnajjjaaC5
namespace Go.Proofs.Ytmppibhdnajjjaa.C
open Go.RowKit Go.Proofs.YtmppibhdnajjjaaW.PrintWords Go.Proofs.YtmppibhdnajjjaaW.PrintLast Go.Proofs.YtmppibhdnajjjaaW.PrintMore
attribute [local go_sem] Instr.field asAgg
attribute [local go_sem] max2_int min2_int max_two min_two max_three min_three max_four min_four   -- for this text's walks alone
set_option linter.unusedVariables false
set_option linter.unusedSimpArgs false

/-! ### laws_FnMarks: function 4 -/
def laws_FnMarks.l0 : Nat → ByteArray → ByteArray → Int → Int → List ByteArray → Option (Bool)
  | 0, _, _, _, _, _ => none
  | k + 1, x3, x5, x6, x221000, x221001 => if x6 < (x221001.length : Int) then (if 0 ≤ x6 then (if (rdOf ByteArray.empty x221001 x6).toList = ([] : List UInt8) then (some false) else (if x6 > 0 then (if 0 < ((rdOf ByteArray.empty x221001 x6).size : Int) then (if (bt (rdOf ByteArray.empty x221001 x6) 0) = 60 then (if x5.size + (rdOf ByteArray.empty x221001 x6).size ≤ 9223372036854775807 then (laws_FnMarks.l0 k x3 (x5 ++ (rdOf ByteArray.empty x221001 x6)) (wrap64 (x6 + 1)) x221000 x221001) else (none)) else (if 0 ≤ (wrap64 (x6 - 1)) then (if (wrap64 (x6 - 1)) < (x221001.length : Int) then (if 0 < ((rdOf ByteArray.empty x221001 (wrap64 (x6 - 1))).size : Int) then (if (bt (rdOf ByteArray.empty x221001 (wrap64 (x6 - 1))) 0) = 60 then (if x5.size + (rdOf ByteArray.empty x221001 x6).size ≤ 9223372036854775807 then (laws_FnMarks.l0 k x3 (x5 ++ (rdOf ByteArray.empty x221001 x6)) (wrap64 (x6 + 1)) x221000 x221001) else (none)) else (some false)) else (none)) else (none)) else (none))) else (none)) else (if x5.size + (rdOf ByteArray.empty x221001 x6).size ≤ 9223372036854775807 then (laws_FnMarks.l0 k x3 (x5 ++ (rdOf ByteArray.empty x221001 x6)) (wrap64 (x6 + 1)) x221000 x221001) else (none)))) else (none)) else (if x5.toList = x3.toList then ((spec_CutMarks.f k x3).bind fun bt231 => ((laws_lwTexts.f k x221001 bt231.2).bind fun t235 => (if t235 = true then ((impl_IsSpace.f k x3).bind fun t236 => ((spec_IsSpace.f k x3).bind fun t237 => (some (t236 == t237)))) else (some false)))) else (some false))
def laws_FnMarks.f (k : Nat) (l0 : List Int) : Option (Bool) := (laws_lwBig.f l0).bind fun t214 => (if t214 = true then (some true) else ((spec_DrawCutMarks.f k l0).bind fun t215 => ((impl_CutMarks.f k t215).bind fun bt216 => (if bt216.1 = 0 then (laws_FnMarks.l0 k t215 (⟨#[]⟩ : ByteArray) 0 bt216.1 bt216.2) else ((spec_CutMarks.f k t215).bind fun bt221 => (some (bt221.1 == bt216.1)))))))
theorem laws_FnMarks.mono_l : ∀ k, (∀ y0 y1 y2 y3 y4, LeO (laws_FnMarks.l0 k y0 y1 y2 y3 y4) (laws_FnMarks.l0 (k + 1) y0 y1 y2 y3 y4))
  | 0 => fun _ _ _ _ _ r h => by simp [laws_FnMarks.l0] at h
  | k + 1 => by
    have ih0 := laws_FnMarks.mono_l k
    · intro y0 y1 y2 y3 y4
      unfold laws_FnMarks.l0
      repeat' (with_reducible first | exact ih0 _ _ _ _ _ | exact impl_CutMarks.mono _ _ | exact impl_IsSpace.mono _ _ | exact laws_lwTexts.mono _ _ _ | exact spec_CutMarks.mono _ _ | exact spec_DrawCutMarks.mono _ _ | exact spec_IsSpace.mono _ _ | exact LeO.refl _ | exact LeO.none _ | refine LeO.ite ?_ ?_ | refine LeO.bind ?_ (fun _ => ?_))
theorem laws_FnMarks.mono : ∀ a0 k, LeO (laws_FnMarks.f k a0) (laws_FnMarks.f (k + 1) a0) := by
  intro a0 k
  have ih0 := laws_FnMarks.mono_l k
  unfold laws_FnMarks.f
  repeat' (with_reducible first | exact ih0 _ _ _ _ _ | exact impl_CutMarks.mono _ _ | exact impl_IsSpace.mono _ _ | exact laws_lwTexts.mono _ _ _ | exact spec_CutMarks.mono _ _ | exact spec_DrawCutMarks.mono _ _ | exact spec_IsSpace.mono _ _ | exact LeO.refl _ | exact LeO.none _ | refine LeO.ite ?_ ?_ | refine LeO.bind ?_ (fun _ => ?_))
def laws_FnMarks.T14 : Bool × List (List Nat × List Nat) := (true, [([], []), ([], []), ([0, 1], [0, 1]), ([2], [2]), ([3], [3]), ([4, 3], [3, 4]), ([3], [3]), ([6, 3, 3], [3, 6]), ([7, 3], [3, 7]), ([5, 8, 7, 3], [3, 5, 8]), ([3, 9], [3, 9]), ([10, 9], [10]), ([11], [11]), ([12, 11, 11], [11, 12]), ([11], [11]), ([14, 13, 11], [11, 14]), ([13, 15, 11], [11, 13, 15]), ([11, 16], [11, 16]), ([17, 15, 0, 1, 2, 3, 4, 5, 6, 7, 8, 9, 10, 11, 12, 13, 14, 15, 16, 17], [17])])
def laws_FnMarks.B14 : List Nat := [0, 0, 3, 7, 15, 31, 15, 79, 207, 511, 1023, 2047, 4095, 8191, 4095, 32767, 65535, 131071, 262143]
theorem laws_FnMarks.tab14 : rtab .any (opsOf Try.f4 14) = laws_FnMarks.T14 := by kernel_rfl
theorem laws_FnMarks.bits14 : waitsOk laws_FnMarks.T14.2 laws_FnMarks.B14 = true := by kernel_rfl
set_option maxHeartbeats 8000000 in
set_option maxRecDepth 100000 in
theorem laws_FnMarks.calls (k : Nat) (A0 : Option Addr) (c0 : Nat) (l0 : List Int) (r : Bool) (w : World) (hM : ML w) (hr0 : Kd.C (Kd.int .u8) w A0 l0.length l0) (hc0 : l0.length ≤ c0) (h : laws_FnMarks.f k l0 = some r) :
    Calls Try.prog 4 #[.slice A0 l0.length c0] w fun e w' => e = .returned (.bool r) ∧ Below w.heap.size w w' := by
 have hu24 := Try.underlying24; have HR0 := a_ hr0; have HC0 := a_ hc0; clear hr0 hc0; have HB := a_ (Below.refl w.heap.size w); have H : ((laws_lwBig.f l0).bind fun t214 => (if t214 = true then (some true) else ((spec_DrawCutMarks.f k l0).bind fun t215 => ((impl_CutMarks.f k t215).bind fun bt216 => (if bt216.1 = 0 then (laws_FnMarks.l0 k t215 (⟨#[]⟩ : ByteArray) 0 bt216.1 bt216.2) else ((spec_CutMarks.f k t215).bind fun bt221 => (some (bt221.1 == bt216.1)))))))) = some r := h; clear h; replace H := Option.bind_eq_some_iff.mp H; obtain ⟨tx0, Ay0, H⟩ := H; have Ax0 := a_ Ay0; clear Ay0; by_cases cx1 : tx0 = true
 ·subst cx1; rw [if_pos rfl] at H; obtain rfl := Option.some.inj H; go_enter Try.func4, Try.ntmps4
  go_wp2_with (first | ((with_reducible refine gate_callee (f := 12) rfl ?_); refine gc_ 12 8 Try.func12 #[.slice A0 l0.length c0] ?_; (with_reducible refine (laws_lwBig.calls _ _ l0 true _ ?side1 ?side2 Ax0.out).mono ?_); (case side1 => repeat (first | exact HR0.out | (with_reducible refine Kd.C_alloc ?_ _) | (with_reducible refine Kd.C_drewN ?_ _) | (with_reducible refine Kd.C_drew ?_))); (case side2 => exact HC0.out); rintro e w' ⟨rfl, ⟨nd, rfl⟩⟩; refine ⟨_, rfl, ?_⟩))
  go_ret
  exact ⟨y5_, y0_⟩
 ·replace cx1 := Bool.eq_false_iff.mpr cx1; subst cx1; rw [if_neg (show ¬ (false = true) by decide)] at H; replace H := Option.bind_eq_some_iff.mp H; obtain ⟨tx2, Ay2, H⟩ := H; have Ax2 := a_ Ay2; clear Ay2; replace H := Option.bind_eq_some_iff.mp H; obtain ⟨⟨t216, t217⟩, A50, H⟩ := H; replace H : (if t216 = 0 then (laws_FnMarks.l0 k tx2 (⟨#[]⟩ : ByteArray) 0 t216 t217) else ((spec_CutMarks.f k tx2).bind fun bt221 => (some (bt221.1 == t216)))) = some r := H; have A5 := a_ A50; clear A50; by_cases cx3 : t216 = 0
  ·rw [if_pos cx3] at H; have cx3b0 : (t216 == 0) = true := beq_iff_eq.mpr cx3; have cx3b1 : (t216 != 0) = false := bne_eq_false_iff_eq.mpr cx3; clear cx3; have H' := a_ H; clear H; go_enter Try.func4, Try.ntmps4
   go_wp2_with (first | ((with_reducible refine gate_callee (f := 12) rfl ?_); refine gc_ 12 8 Try.func12 #[.slice A0 l0.length c0] ?_; (with_reducible refine (laws_lwBig.calls _ _ l0 false _ ?side1 ?side2 Ax0.out).mono ?_); (case side1 => repeat (first | exact HR0.out | (with_reducible refine Kd.C_alloc ?_ _) | (with_reducible refine Kd.C_drewN ?_ _) | (with_reducible refine Kd.C_drew ?_))); (case side2 => exact HC0.out); rintro e w' ⟨rfl, ⟨nd, rfl⟩⟩; refine ⟨_, rfl, ?_⟩) | ((with_reducible refine gate_callee (f := 13) rfl ?_); refine gc_ 13 10 Try.func13 #[.slice A0 l0.length c0] ?_; (with_reducible refine (spec_DrawCutMarks.calls k _ _ l0 tx2 _ ?side1 ?side2 Ax2.out).mono ?_); (case side1 => repeat (first | exact HR0.out | (with_reducible refine Kd.C_alloc ?_ _) | (with_reducible refine Kd.C_drewN ?_ _) | (with_reducible refine Kd.C_drew ?_))); (case side2 => exact HC0.out); rintro e w7 ⟨rfl, hb⟩; refine ⟨_, rfl, ?_⟩; have n0_ := a_ (below_step y0_ hb); clear HB; have HB := n0_; clear n0_; (try clear hb); (try clear hb2); (try clear hk); (try clear hi)) | ((with_reducible refine gate_callee (f := 8) rfl ?_); refine gc_ 8 12 Try.func8 #[.string tx2] ?_; (with_reducible refine (impl_CutMarks.calls k tx2 t216 t217 _ ?sideM A5.out).mono ?_); (case sideM => first | (exact ML_below hM y6_) | (repeat (first | exact hM | refine ML_drewN ?_ _ | refine ML_drew ?_ | refine ML_alloc ?_ _))); rintro e w8 ⟨v218, rfl, ho0, hb⟩; refine ⟨_, rfl, ?_⟩; have n0_ := a_ (Kd.R_lower ho0 (below_size y0_)); have n1_ := a_ (below_step y0_ hb); clear HB; have HO219 := n0_; have HB := n1_; clear n0_ n1_; (try clear hb); (try clear hb2); (try clear hk); (try clear hi); (try clear ho0)) | ((with_reducible refine gate_dst (N := 4) rfl ?_); refine box_event zr_ (N := 4) zr_ (cs := #[.int .i64 0, .slice none 0 0]) (t := 24) zs_ ?_; intro gb220 hg w9 hbox hb; have n0_ := a_ (Kd.R_below y46_ hb); have n1_ := a_ (below_step y0_ hb); have n2_ := a_ (hbox); have n3_ := a_ ((by rw [hg]; exact (below_size y0_) : w.heap.size ≤ gb220)); have n4_ := a_ ((by rw [hg]; exact (below_size y0_) : w.heap.size ≤ gb220)); clear HO219; clear HB; have HO219 := n0_; have HB := n1_; have BK220 := n2_; have GW220 := n3_; have GE220 := n4_; clear n0_ n1_ n2_ n3_ n4_; clear hb hbox hg; have hcz10_0 : w9.cell? ⟨gb220, 0, none⟩ = some (.int .i64 0) := (blk_cell BK220.out 0).trans rfl; have hcz10_1 : w9.cell? ⟨gb220, 1, none⟩ = some (.slice none 0 0) := (blk_cell BK220.out 1).trans rfl; have hfz10_0 := blk_frozen BK220.out 0; have hfz10_1 := blk_frozen BK220.out 1; obtain ⟨Ao11, co11, eo11⟩ := Kd.R_slice HO219.out; subst eo11))
   go_loopg [5, 6] k (fun kq v5 v6 w' => ∃ (x5_1 : ByteArray) (x6_1 : Int), v5 = .string x5_1 ∧ v6 = .int .i64 x6_1 ∧ Aside0 (laws_FnMarks.l0 kq tx2 x5_1 x6_1 t216 t217 = some r) ∧ Aside0 (kq ≤ k) ∧ Aside0 (Kd.R Kd.string 9 w' w.heap.size (fun _ => True) (.slice Ao11 t217.length co11) t217) ∧ Aside0 (w'.heap[gb220]? = some (.cells #[.int .i64 t216, (.slice Ao11 t217.length co11)] 24 (0, 0))) ∧ Aside0 (Below w.heap.size w w'))
   case atStart => exact ⟨((⟨#[]⟩ : ByteArray)), (0), y2_, y2_, H', ⟨Nat.le_refl _⟩, ⟨by (with_reducible repeat (first | apply Kd.R_alloc | apply Kd.R_drewN | apply Kd.R_drew)); exact Kd.R_mono (Kd.R_far (p := ⟨gb220, 1, none⟩) (Kd.R_far (p := ⟨gb220, 0, none⟩) (Kd.R_types HO219.out BK220.out (by decide)) (fun _ hk => hk.2) (.int .i64 t216)) (fun _ hk => hk.2) (.slice Ao11 t217.length co11)) (fun _ hk => trivial)⟩, ⟨y38_⟩, ⟨y6_⟩⟩
   case round =>
    clear H'; (try clear cx1); (try clear cx3); (try clear cx3b0); (try clear cx3b1); (try clear hcz10_0); (try clear hcz10_1); (try clear hfz10_0); (try clear hfz10_1); obtain ⟨x5_1, x6_1, rfl, rfl, HA, HK1, HO_221001, BK220, HB⟩ := hrel; cases gk with
    | zero => exact absurd HA.out (by simp [laws_FnMarks.l0])
    | succ k1 =>
     have H := HA.out; clear HA; simp only [laws_FnMarks.l0] at H; by_cases cx4 : x6_1 < (t217.length : Int); rw [if_pos cx4] at H; have cx4b0 : decide (x6_1 < (t217.length : Int)) = true := decide_eq_true cx4; clear cx4; by_cases cx5 : 0 ≤ x6_1; rw [if_pos cx5] at H; have cx5b0 : decide (0 ≤ x6_1) = true := decide_eq_true cx5; clear cx5; by_cases cx6 : (rdOf ByteArray.empty t217 x6_1).toList = ([] : List UInt8); rw [if_pos cx6] at H; have cx6b0 : ((rdOf ByteArray.empty t217 x6_1).toList == ([] : List UInt8)) = true := beq_iff_eq.mpr cx6; have cx6b1 : ((rdOf ByteArray.empty t217 x6_1).toList != ([] : List UInt8)) = false := bne_eq_false_iff_eq.mpr cx6; clear cx6; obtain rfl := Option.some.inj H; have hcz15_0 : wr.cell? ⟨gb220, 0, none⟩ = some (.int .i64 t216) := (blk_cell BK220.out 0).trans rfl; have hcz15_1 : wr.cell? ⟨gb220, 1, none⟩ = some (.slice Ao11 t217.length co11) := (blk_cell BK220.out 1).trans rfl; have hfz15_0 := blk_frozen BK220.out 0; have hfz15_1 := blk_frozen BK220.out 1; have m1_0 := t_; have m1_1 := t_; have m1_12 := t_; rotate_left; rw [if_neg cx6] at H; have cx6b0 : ((rdOf ByteArray.empty t217 x6_1).toList == ([] : List UInt8)) = false := beq_eq_false_iff_ne.mpr cx6; have cx6b1 : ((rdOf ByteArray.empty t217 x6_1).toList != ([] : List UInt8)) = true := bne_iff_ne.mpr cx6; by_cases cx7 : x6_1 > 0; rw [if_pos cx7] at H; have cx7b0 : decide (0 < x6_1) = true := decide_eq_true cx7; clear cx7; by_cases cx8 : 0 < ((rdOf ByteArray.empty t217 x6_1).size : Int); rw [if_pos cx8] at H; have cx8b0 : decide (0 < ((rdOf ByteArray.empty t217 x6_1).size : Int)) = true := decide_eq_true cx8; have cx8b1 : decide (0 < (rdOf ByteArray.empty t217 x6_1).size) = true := decide_eq_true (by omega); clear cx8; by_cases cx9 : (bt (rdOf ByteArray.empty t217 x6_1) 0) = 60; rw [if_pos cx9] at H; have cx9b0 : ((bt (rdOf ByteArray.empty t217 x6_1) 0) == 60) = true := beq_iff_eq.mpr cx9; have cx9b1 : ((bt (rdOf ByteArray.empty t217 x6_1) 0) != 60) = false := bne_eq_false_iff_eq.mpr cx9; clear cx9; by_cases cx10 : x5_1.size + (rdOf ByteArray.empty t217 x6_1).size ≤ 9223372036854775807; rw [if_pos cx10] at H; have cx10b0 := eq_true cx10; have cx10b1 : decide (x5_1.size + (rdOf ByteArray.empty t217 x6_1).size ≤ 9223372036854775807) = true := decide_eq_true cx10; try have cx10b2 : (9223372036854775807 < x5_1.size + (rdOf ByteArray.empty t217 x6_1).size) = False := eq_false (Nat.not_lt.2 cx10)
     have H' := a_ H; clear H; have hcz21_0 : wr.cell? ⟨gb220, 0, none⟩ = some (.int .i64 t216) := (blk_cell BK220.out 0).trans rfl; have hcz21_1 : wr.cell? ⟨gb220, 1, none⟩ = some (.slice Ao11 t217.length co11) := (blk_cell BK220.out 1).trans rfl; have hfz21_0 := blk_frozen BK220.out 0; have hfz21_1 := blk_frozen BK220.out 1; have m1_0 := t_; have m1_13 := t_; have m1_14 := t_; have m1_15 := t_; have m1_18 := t_; rotate_left
     ·rw [if_neg cx10] at H; exact absurd H y49_
     rw [if_neg cx9] at H; have cx9b0 : ((bt (rdOf ByteArray.empty t217 x6_1) 0) == 60) = false := beq_eq_false_iff_ne.mpr cx9; have cx9b1 : ((bt (rdOf ByteArray.empty t217 x6_1) 0) != 60) = true := bne_iff_ne.mpr cx9; obtain ⟨ji22, hji22⟩ : ∃ j_ : Int, (wrap64 (x6_1 - 1)) = j_ := ⟨_, rfl⟩; replace H : (if 0 ≤ (ji22) then (if (ji22) < (t217.length : Int) then (if 0 < ((rdOf ByteArray.empty t217 (ji22)).size : Int) then (if (bt (rdOf ByteArray.empty t217 (ji22)) 0) = 60 then (if x5_1.size + (rdOf ByteArray.empty t217 x6_1).size ≤ 9223372036854775807 then (laws_FnMarks.l0 k1 tx2 (x5_1 ++ (rdOf ByteArray.empty t217 x6_1)) (wrap64 (x6_1 + 1)) t216 t217) else (none)) else (some false)) else (none)) else (none)) else (none)) = some r := by first | (rw [hji22] at H; exact H) | (simp only [hji22] at H ⊢; exact H)
     have hji22w : (IntKind.i64.wrap (x6_1 - 1)) = ji22 := (i64_w _).trans hji22; by_cases cx10 : 0 ≤ (ji22); rw [if_pos cx10] at H; have cx10b0 : decide (0 ≤ (ji22)) = true := decide_eq_true cx10; clear cx10; by_cases cx11 : (ji22) < (t217.length : Int); rw [if_pos cx11] at H; have cx11b0 : decide ((ji22) < (t217.length : Int)) = true := decide_eq_true cx11; clear cx11; by_cases cx12 : 0 < ((rdOf ByteArray.empty t217 (ji22)).size : Int); rw [if_pos cx12] at H; have cx12b0 : decide (0 < ((rdOf ByteArray.empty t217 (ji22)).size : Int)) = true := decide_eq_true cx12; have cx12b1 : decide (0 < (rdOf ByteArray.empty t217 (ji22)).size) = true := decide_eq_true (by omega); clear cx12; by_cases cx13 : (bt (rdOf ByteArray.empty t217 (ji22)) 0) = 60; rw [if_pos cx13] at H; have cx13b0 : ((bt (rdOf ByteArray.empty t217 (ji22)) 0) == 60) = true := beq_iff_eq.mpr cx13; have cx13b1 : ((bt (rdOf ByteArray.empty t217 (ji22)) 0) != 60) = false := bne_eq_false_iff_eq.mpr cx13; clear cx13; by_cases cx14 : x5_1.size + (rdOf ByteArray.empty t217 x6_1).size ≤ 9223372036854775807; rw [if_pos cx14] at H; have cx14b0 := eq_true cx14; have cx14b1 : decide (x5_1.size + (rdOf ByteArray.empty t217 x6_1).size ≤ 9223372036854775807) = true := decide_eq_true cx14; try have cx14b2 : (9223372036854775807 < x5_1.size + (rdOf ByteArray.empty t217 x6_1).size) = False := eq_false (Nat.not_lt.2 cx14)
     have H' := a_ H; clear H; have hcz29_0 : wr.cell? ⟨gb220, 0, none⟩ = some (.int .i64 t216) := (blk_cell BK220.out 0).trans rfl; have hcz29_1 : wr.cell? ⟨gb220, 1, none⟩ = some (.slice Ao11 t217.length co11) := (blk_cell BK220.out 1).trans rfl; have hfz29_0 := blk_frozen BK220.out 0; have hfz29_1 := blk_frozen BK220.out 1; have m1_0 := t_; have m1_13 := t_; have m1_14 := t_; have m1_16 := t_; have m1_17 := t_; have m1_18 := t_; rotate_left
     ·rw [if_neg cx14] at H; exact absurd H y49_
     rw [if_neg cx13] at H; have cx13b0 : ((bt (rdOf ByteArray.empty t217 (ji22)) 0) == 60) = false := beq_eq_false_iff_ne.mpr cx13; have cx13b1 : ((bt (rdOf ByteArray.empty t217 (ji22)) 0) != 60) = true := bne_iff_ne.mpr cx13; obtain rfl := Option.some.inj H; have hcz30_0 : wr.cell? ⟨gb220, 0, none⟩ = some (.int .i64 t216) := (blk_cell BK220.out 0).trans rfl; have hcz30_1 : wr.cell? ⟨gb220, 1, none⟩ = some (.slice Ao11 t217.length co11) := (blk_cell BK220.out 1).trans rfl; have hfz30_0 := blk_frozen BK220.out 0; have hfz30_1 := blk_frozen BK220.out 1; have m1_0 := t_; have m1_13 := t_; have m1_14 := t_; have m1_16 := t_; have m1_19 := t_; rotate_left
     ·rw [if_neg cx12] at H; exact absurd H y49_
     ·rw [if_neg cx11] at H; exact absurd H y49_
     ·rw [if_neg cx10] at H; exact absurd H y49_
     ·rw [if_neg cx8] at H; exact absurd H y49_
     rw [if_neg cx7] at H; have cx7b0 : decide (0 < x6_1) = false := decide_eq_false cx7; clear cx7; by_cases cx8 : x5_1.size + (rdOf ByteArray.empty t217 x6_1).size ≤ 9223372036854775807; rw [if_pos cx8] at H; have cx8b0 := eq_true cx8; have cx8b1 : decide (x5_1.size + (rdOf ByteArray.empty t217 x6_1).size ≤ 9223372036854775807) = true := decide_eq_true cx8; try have cx8b2 : (9223372036854775807 < x5_1.size + (rdOf ByteArray.empty t217 x6_1).size) = False := eq_false (Nat.not_lt.2 cx8)
     have H' := a_ H; clear H; have hcz32_0 : wr.cell? ⟨gb220, 0, none⟩ = some (.int .i64 t216) := (blk_cell BK220.out 0).trans rfl; have hcz32_1 : wr.cell? ⟨gb220, 1, none⟩ = some (.slice Ao11 t217.length co11) := (blk_cell BK220.out 1).trans rfl; have hfz32_0 := blk_frozen BK220.out 0; have hfz32_1 := blk_frozen BK220.out 1; have m1_0 := t_; have m1_13 := t_; have m1_18 := t_; rotate_left
     ·rw [if_neg cx8] at H; exact absurd H y49_
     ·rw [if_neg cx5] at H; exact absurd H y49_
     rw [if_neg cx4] at H; have cx4b0 : decide (x6_1 < (t217.length : Int)) = false := decide_eq_false cx4; clear cx4; by_cases cx5 : x5_1.toList = tx2.toList; rw [if_pos cx5] at H; have cx5b0 : (x5_1.toList == tx2.toList) = true := beq_iff_eq.mpr cx5; have cx5b1 : (x5_1.toList != tx2.toList) = false := bne_eq_false_iff_eq.mpr cx5; clear cx5; replace H := Option.bind_eq_some_iff.mp H; obtain ⟨⟨t231, t232⟩, A340, H⟩ := H; replace H : ((laws_lwTexts.f k1 t217 t232).bind fun t235 => (if t235 = true then ((impl_IsSpace.f k1 tx2).bind fun t236 => ((spec_IsSpace.f k1 tx2).bind fun t237 => (some (t236 == t237)))) else (some false))) = some r := H; have A34 := a_ A340; clear A340; replace H := Option.bind_eq_some_iff.mp H; obtain ⟨tx6, Ay6, H⟩ := H; have Ax6 := a_ Ay6; clear Ay6; by_cases cx7 : tx6 = true; subst cx7; rw [if_pos rfl] at H; replace H := Option.bind_eq_some_iff.mp H; obtain ⟨tx8, Ay8, H⟩ := H; have Ax8 := a_ Ay8; clear Ay8; replace H := Option.bind_eq_some_iff.mp H; obtain ⟨tx9, Ay9, H⟩ := H; have Ax9 := a_ Ay9; clear Ay9; obtain rfl := Option.some.inj H; have hcz39_0 : wr.cell? ⟨gb220, 0, none⟩ = some (.int .i64 t216) := (blk_cell BK220.out 0).trans rfl; have hcz39_1 : wr.cell? ⟨gb220, 1, none⟩ = some (.slice Ao11 t217.length co11) := (blk_cell BK220.out 1).trans rfl; have hfz39_0 := blk_frozen BK220.out 0; have hfz39_1 := blk_frozen BK220.out 1; have m1_2 := t_; have m1_3 := t_; have m1_5 := t_; have m1_6 := t_; have m1_8 := t_; have m1_9 := t_; have m1_11 := t_; have m1_12 := t_; rotate_left; replace cx7 := Bool.eq_false_iff.mpr cx7; subst cx7; rw [if_neg (show ¬ (false = true) by decide)] at H; obtain rfl := Option.some.inj H; have hcz43_0 : wr.cell? ⟨gb220, 0, none⟩ = some (.int .i64 t216) := (blk_cell BK220.out 0).trans rfl; have hcz43_1 : wr.cell? ⟨gb220, 1, none⟩ = some (.slice Ao11 t217.length co11) := (blk_cell BK220.out 1).trans rfl; have hfz43_0 := blk_frozen BK220.out 0; have hfz43_1 := blk_frozen BK220.out 1; have m1_2 := t_; have m1_3 := t_; have m1_5 := t_; have m1_6 := t_; have m1_8 := t_; have m1_10 := t_; have m1_11 := t_; have m1_12 := t_; rotate_left; rw [if_neg cx5] at H; have cx5b0 : (x5_1.toList == tx2.toList) = false := beq_eq_false_iff_ne.mpr cx5; have cx5b1 : (x5_1.toList != tx2.toList) = true := bne_iff_ne.mpr cx5; obtain rfl := Option.some.inj H; have hcz47_0 : wr.cell? ⟨gb220, 0, none⟩ = some (.int .i64 t216) := (blk_cell BK220.out 0).trans rfl; have hcz47_1 : wr.cell? ⟨gb220, 1, none⟩ = some (.slice Ao11 t217.length co11) := (blk_cell BK220.out 1).trans rfl; have hfz47_0 := blk_frozen BK220.out 0; have hfz47_1 := blk_frozen BK220.out 1; have m1_2 := t_; have m1_4 := t_; have m1_5 := t_; have m1_7 := t_; have m1_8 := t_; have m1_10 := t_; have m1_11 := t_; have m1_12 := t_
     rotate_left
     all_goals (
      first
      | fail_if_success clear m1_0
      |(clear m1_0; have p9922068 : 0 ≤ (x6_1 : Int) := of_decide_eq_true y3_; have q9922068 : x6_1 < (t217.length : Int) := of_decide_eq_true y3_; obtain ⟨ad9922068, e9922068, hx9922068_0⟩ := Kd.at_string (Kd.R_reads' HO_221001.out).2.2 x6_1 p9922068 q9922068; cases e9922068; replace p9922068 := eq_true p9922068; replace q9922068 := eq_true q9922068)
      first
      | fail_if_success clear m1_1
      |(clear m1_1; go_wp2)
      first
      | fail_if_success clear m1_2
      |(clear m1_2; try go_wp2
        have n0_ := a_ (Kd.R_drew HO_221001.out); have n1_ := a_ (blk_drew BK220.out); have n2_ := a_ (below_drew1 HB.out); clear HO_221001; clear BK220; clear HB; have HO_221001 := n0_; have BK220 := n1_; have HB := n2_; clear n0_ n1_ n2_)
      first
      | fail_if_success clear m1_3
      |(clear m1_3; refine start_ (n := 19) (S := fun w' => w'.cell? ⟨gb220, 0, none⟩ = some (.int .i64 t216) ∧ w'.cell? ⟨gb220, 1, none⟩ = some (.slice Ao11 t217.length co11)) (ds := []) #[F_,F_,F_,F_,F_,F_,F_,F_,F_,F_,F_,F_,F_,F_,F_,F_,F_,F_,F_] y35_ rfl rfl ⟨(blk_cell BK220.out 0).trans rfl, (blk_cell BK220.out 1).trans rfl⟩ (fun hHeld => ?_); refine with_tabW laws_FnMarks.tab14 laws_FnMarks.bits14 (fun HT_ HW_ => ?_))
      first
      | fail_if_success clear m1_4
      |(clear m1_4; refine start_ (n := 19) (S := fun w' => True) (ds := []) #[F_,F_,F_,F_,F_,F_,F_,F_,F_,F_,F_,F_,F_,F_,F_,F_,F_,F_,F_] y35_ rfl rfl trivial (fun hHeld => ?_); refine with_tabW laws_FnMarks.tab14 laws_FnMarks.bits14 (fun HT_ HW_ => ?_))
      first
      | fail_if_success clear m1_5
      |(clear m1_5; generalize wr.drew = w9497698 at HO_221001 BK220 HB hHeld ⊢; refine pure_ (i := 0) (N := some 65) #[T_,F_,F_,F_,F_,F_,F_,F_,F_,F_,F_,F_,F_,F_,F_,F_,F_,F_,F_] rfl rfl z1_ (fun _ _ _ h => h) (Or.inl ⟨rfl, z2_⟩) z3_ ?_; refine pure_ (i := 1) (N := some 66) #[T_,T_,F_,F_,F_,F_,F_,F_,F_,F_,F_,F_,F_,F_,F_,F_,F_,F_,F_] rfl rfl z1_ (fun _ _ _ h => h) (Or.inl ⟨rfl, z2_⟩) z3_ ?_; refine pure_ (i := 2) (N := some 67) #[T_,T_,T_,F_,F_,F_,F_,F_,F_,F_,F_,F_,F_,F_,F_,F_,F_,F_,F_] rfl rfl z1_ (fun _ _ _ h => h) (Or.inl ⟨rfl, z2_⟩) z3_ ?_; refine pure_ (i := 3) (N := some 68) #[T_,T_,T_,T_,F_,F_,F_,F_,F_,F_,F_,F_,F_,F_,F_,F_,F_,F_,F_] rfl rfl z1_ (fun _ _ _ h => h) (Or.inl ⟨rfl, z2_⟩) z3_ ?_)
      first
      | fail_if_success clear m1_6
      |(clear m1_6; refine pure_ (i := 4) (N := some 69) #[T_,T_,T_,T_,T_,F_,F_,F_,F_,F_,F_,F_,F_,F_,F_,F_,F_,F_,F_] rfl rfl z1_ (fun _ _ _ h => h) (Or.inl ⟨rfl, z2_⟩) z3_ ?_; refine pure_ (i := 6) (N := some 71) #[T_,T_,T_,T_,T_,F_,T_,F_,F_,F_,F_,F_,F_,F_,F_,F_,F_,F_,F_] rfl rfl z1_ (fun _ _ _ h => h) (Or.inl ⟨rfl, z2_⟩) z3_ ?_; refine take_ (i := 5) (N := some 70) #[T_,T_,T_,T_,T_,T_,T_,F_,F_,F_,F_,F_,F_,F_,F_,F_,F_,F_,F_] rfl rfl z4_ (fun _ _ _ h => h) (Or.inl ⟨rfl, z5_⟩) hHeld z3_ ?_; refine one_ (i := 7) (N := some 72) #[T_,T_,T_,T_,T_,T_,T_,T_,F_,F_,F_,F_,F_,F_,F_,F_,F_,F_,F_] rfl rfl (one_of HT_.out y35_) (by decide) (fun K hK => ?_); refine goes_ Try.func7 y35_ rfl #[.string tx2] (by rfl) rfl rfl y22_ ?_; with_reducible refine (spec_CutMarks.calls k1 tx2 t231 t232 _ A34.out).mono ?_
        rintro e w9985327 ⟨v9296208, rfl, ho0, hb⟩; refine ⟨_, rfl, ?_⟩; have n0_ := a_ (Kd.R_elder' y50_ (Kd.R_base ho0) hb); have n1_ := a_ (Kd.R_lower (Kd.R_new' ho0 (Kd.R_lt y50_)) (below_size y6_)); have n2_ := a_ (blk_below (g := gb220) (o := .cells #[.int .i64 t216, .slice Ao11 t217.length co11] 24 (0, 0)) y48_ hb); have n3_ := a_ (below_step y6_ hb); clear HO_221001; clear BK220; clear HB; have HO_221001 := n0_; have HO9369609 := n1_; have BK220 := n2_; have HB := n3_; clear n0_ n1_ n2_ n3_; (try clear hb); (try clear hb2); (try clear hk); (try clear hi); (try clear ho0); obtain ⟨Ao9997294, co9997294, eo9997294⟩ := Kd.R_slice HO9369609.out; (first | subst eo9997294 | (injection eo9997294 with f1_ f2_ f3_; have f4_ := f1_.symm; have f5_ := f3_.symm; clear f1_ f2_ f3_; subst f4_; subst f5_)); refine hK.out _ _ ⟨(blk_cell BK220.out 0).trans rfl, (blk_cell BK220.out 1).trans rfl⟩ (fun hHeld => ?_); clear hK K; refine norm_ z9_ ?_; refine pure_ (i := 8) (N := some 73) #[T_,T_,T_,T_,T_,T_,T_,T_,T_,F_,F_,F_,F_,F_,F_,F_,F_,F_,F_] rfl rfl z1_ (fun _ _ _ h => h) (Or.inl ⟨rfl, z2_⟩) z3_ ?_; refine one_ (i := 9) (N := some 74) #[T_,T_,T_,T_,T_,T_,T_,T_,T_,T_,F_,F_,F_,F_,F_,F_,F_,F_,F_] rfl rfl (one_of HT_.out y35_) (by decide) (fun K hK => ?_); refine goes_ Try.func14 y35_ rfl #[.slice Ao11 t217.length co11, .slice Ao9997294 t232.length co9997294] (by rfl) rfl rfl y22_ ?_; with_reducible refine (laws_lwTexts.calls k1 _ _ t217 _ _ t232 _ _ ?side1 ?side2 ?side3 ?side4 Ax6.out).mono ?_
        (case side1 => repeat (first | exact (Kd.R_reads' HO_221001.out).2.2 | (with_reducible refine Kd.C_alloc ?_ _) | (with_reducible refine Kd.C_drewN ?_ _) | (with_reducible refine Kd.C_drew ?_))); (case side2 => exact (Kd.R_reads' HO_221001.out).2.1); (case side3 => repeat (first | exact (Kd.R_reads' HO9369609.out).2.2 | (with_reducible refine Kd.C_alloc ?_ _) | (with_reducible refine Kd.C_drewN ?_ _) | (with_reducible refine Kd.C_drew ?_))); (case side4 => exact (Kd.R_reads' HO9369609.out).2.1); rintro e w' ⟨rfl, ⟨nd, rfl⟩⟩; refine ⟨_, rfl, ?_⟩; refine hK.out _ _ ⟨(blk_cell BK220.out 0).trans rfl, (blk_cell BK220.out 1).trans rfl⟩ (fun hHeld => ?_); clear hK K; refine norm_ z10_ ?_)
      first
      | fail_if_success clear m1_7
      |(clear m1_7; refine pure_ (i := 4) (N := some 69) (v := undef) (a' := ?_) #[T_,T_,T_,T_,T_,F_,F_,F_,F_,F_,F_,F_,F_,F_,F_,F_,F_,F_,F_] rfl rfl (any_of HT_.out y35_) (fun _ _ _ h => h) (Or.inr ⟨by rfl, rfl⟩) ?_ ?_; rotate_left
        ·simp only [Act.put, List.setIfInBounds_toArray, List.set_cons_zero, List.set_cons_succ, i64_w, i32_w]
         rfl
        refine pure_ (i := 5) (N := some 70) (v := undef) (a' := ?_) #[T_,T_,T_,T_,T_,T_,F_,F_,F_,F_,F_,F_,F_,F_,F_,F_,F_,F_,F_] rfl rfl (any_of HT_.out y35_) (fun _ _ _ h => h) (Or.inr ⟨by rfl, rfl⟩) ?_ ?_; rotate_left
        ·simp only [Act.put, List.setIfInBounds_toArray, List.set_cons_zero, List.set_cons_succ, i64_w, i32_w]
         rfl
        refine pure_ (i := 6) (N := some 71) (v := undef) (a' := ?_) #[T_,T_,T_,T_,T_,T_,T_,F_,F_,F_,F_,F_,F_,F_,F_,F_,F_,F_,F_] rfl rfl (any_of HT_.out y35_) (fun _ _ _ h => h) (Or.inr ⟨by rfl, rfl⟩) ?_ ?_; rotate_left
        ·simp only [Act.put, List.setIfInBounds_toArray, List.set_cons_zero, List.set_cons_succ, i64_w, i32_w]
         rfl
        refine pure_ (i := 7) (N := some 72) (v := undef) (a' := ?_) #[T_,T_,T_,T_,T_,T_,T_,T_,F_,F_,F_,F_,F_,F_,F_,F_,F_,F_,F_] rfl rfl (any_of HT_.out y35_) (fun _ _ _ h => h) (Or.inr ⟨by rfl, rfl⟩) ?_ ?_; rotate_left
        ·simp only [Act.put, List.setIfInBounds_toArray, List.set_cons_zero, List.set_cons_succ, i64_w, i32_w]
         rfl
        refine pure_ (i := 8) (N := some 73) (v := undef) (a' := ?_) #[T_,T_,T_,T_,T_,T_,T_,T_,T_,F_,F_,F_,F_,F_,F_,F_,F_,F_,F_] rfl rfl (any_of HT_.out y35_) (fun _ _ _ h => h) (Or.inr ⟨by rfl, rfl⟩) ?_ ?_; rotate_left
        ·simp only [Act.put, List.setIfInBounds_toArray, List.set_cons_zero, List.set_cons_succ, i64_w, i32_w]
         rfl
        refine pure_ (i := 9) (N := some 74) (v := undef) (a' := ?_) #[T_,T_,T_,T_,T_,T_,T_,T_,T_,T_,F_,F_,F_,F_,F_,F_,F_,F_,F_] rfl rfl (any_of HT_.out y35_) (fun _ _ _ h => h) (Or.inr ⟨by rfl, rfl⟩) ?_ ?_; rotate_left
        ·simp only [Act.put, List.setIfInBounds_toArray, List.set_cons_zero, List.set_cons_succ, i64_w, i32_w]
         rfl)
      first
      | fail_if_success clear m1_8
      |(clear m1_8; refine pure_ (i := 10) (N := some 75) #[T_,T_,T_,T_,T_,T_,T_,T_,T_,T_,T_,F_,F_,F_,F_,F_,F_,F_,F_] rfl rfl z1_ (fun _ _ _ h => h) (Or.inl ⟨rfl, z2_⟩) z3_ ?_; refine pure_ (i := 11) (N := some 76) #[T_,T_,T_,T_,T_,T_,T_,T_,T_,T_,T_,T_,F_,F_,F_,F_,F_,F_,F_] rfl rfl z1_ (fun _ _ _ h => h) (Or.inl ⟨rfl, z2_⟩) z3_ ?_)
      first
      | fail_if_success clear m1_9
      |(clear m1_9; refine pure_ (i := 12) (N := some 77) #[T_,T_,T_,T_,T_,T_,T_,T_,T_,T_,T_,T_,T_,F_,F_,F_,F_,F_,F_] rfl rfl z1_ (fun _ _ _ h => h) (Or.inl ⟨rfl, z2_⟩) z3_ ?_; refine pure_ (i := 14) (N := some 79) #[T_,T_,T_,T_,T_,T_,T_,T_,T_,T_,T_,T_,T_,F_,T_,F_,F_,F_,F_] rfl rfl z1_ (fun _ _ _ h => h) (Or.inl ⟨rfl, z2_⟩) z3_ ?_; refine one_ (i := 13) (N := some 78) #[T_,T_,T_,T_,T_,T_,T_,T_,T_,T_,T_,T_,T_,T_,T_,F_,F_,F_,F_] rfl rfl (one_of HT_.out y35_) (by decide) (fun K hK => ?_); refine goes_ Try.func15 y35_ rfl #[.string tx2] (by rfl) rfl rfl y22_ ?_; with_reducible refine (impl_IsSpace.calls k1 tx2 tx8 _ Ax8.out).mono ?_
        rintro e w' ⟨rfl, ⟨nd, rfl⟩⟩; refine ⟨_, rfl, ?_⟩; refine hK.out _ _ ⟨(blk_cell BK220.out 0).trans rfl, (blk_cell BK220.out 1).trans rfl⟩ (fun hHeld => ?_); clear hK K; refine norm_ z11_ ?_; refine one_ (i := 15) (N := some 80) #[T_,T_,T_,T_,T_,T_,T_,T_,T_,T_,T_,T_,T_,T_,T_,T_,F_,F_,F_] rfl rfl (one_of HT_.out y35_) (by decide) (fun K hK => ?_); refine goes_ Try.func16 y35_ rfl #[.string tx2] (by rfl) rfl rfl y22_ ?_; with_reducible refine (spec_IsSpace.calls k1 tx2 tx9 _ Ax9.out).mono ?_
        rintro e w' ⟨rfl, ⟨nd, rfl⟩⟩; refine ⟨_, rfl, ?_⟩; refine hK.out _ _ ⟨(blk_cell BK220.out 0).trans rfl, (blk_cell BK220.out 1).trans rfl⟩ (fun hHeld => ?_); clear hK K; refine norm_ z12_ ?_; refine pure_ (i := 16) (N := some 81) #[T_,T_,T_,T_,T_,T_,T_,T_,T_,T_,T_,T_,T_,T_,T_,T_,T_,F_,F_] rfl rfl z1_ (fun _ _ _ h => h) (Or.inl ⟨rfl, z2_⟩) z3_ ?_)
      first
      | fail_if_success clear m1_10
      |(clear m1_10; refine pure_ (i := 12) (N := some 77) (v := undef) (a' := ?_) #[T_,T_,T_,T_,T_,T_,T_,T_,T_,T_,T_,T_,T_,F_,F_,F_,F_,F_,F_] rfl rfl (any_of HT_.out y35_) (fun _ _ _ h => h) (Or.inr ⟨by rfl, rfl⟩) ?_ ?_; rotate_left
        ·simp only [Act.put, List.setIfInBounds_toArray, List.set_cons_zero, List.set_cons_succ, i64_w, i32_w]
         rfl
        refine pure_ (i := 13) (N := some 78) (v := undef) (a' := ?_) #[T_,T_,T_,T_,T_,T_,T_,T_,T_,T_,T_,T_,T_,T_,F_,F_,F_,F_,F_] rfl rfl (any_of HT_.out y35_) (fun _ _ _ h => h) (Or.inr ⟨by rfl, rfl⟩) ?_ ?_; rotate_left
        ·simp only [Act.put, List.setIfInBounds_toArray, List.set_cons_zero, List.set_cons_succ, i64_w, i32_w]
         rfl
        refine pure_ (i := 14) (N := some 79) (v := undef) (a' := ?_) #[T_,T_,T_,T_,T_,T_,T_,T_,T_,T_,T_,T_,T_,T_,T_,F_,F_,F_,F_] rfl rfl (any_of HT_.out y35_) (fun _ _ _ h => h) (Or.inr ⟨by rfl, rfl⟩) ?_ ?_; rotate_left
        ·simp only [Act.put, List.setIfInBounds_toArray, List.set_cons_zero, List.set_cons_succ, i64_w, i32_w]
         rfl
        refine pure_ (i := 15) (N := some 80) (v := undef) (a' := ?_) #[T_,T_,T_,T_,T_,T_,T_,T_,T_,T_,T_,T_,T_,T_,T_,T_,F_,F_,F_] rfl rfl (any_of HT_.out y35_) (fun _ _ _ h => h) (Or.inr ⟨by rfl, rfl⟩) ?_ ?_; rotate_left
        ·simp only [Act.put, List.setIfInBounds_toArray, List.set_cons_zero, List.set_cons_succ, i64_w, i32_w]
         rfl
        refine pure_ (i := 16) (N := some 81) (v := undef) (a' := ?_) #[T_,T_,T_,T_,T_,T_,T_,T_,T_,T_,T_,T_,T_,T_,T_,T_,T_,F_,F_] rfl rfl (any_of HT_.out y35_) (fun _ _ _ h => h) (Or.inr ⟨by rfl, rfl⟩) ?_ ?_; rotate_left
        ·simp only [Act.put, List.setIfInBounds_toArray, List.set_cons_zero, List.set_cons_succ, i64_w, i32_w]
         rfl)
      first
      | fail_if_success clear m1_11
      |(clear m1_11; refine pure_ (i := 17) (N := some 82) #[T_,T_,T_,T_,T_,T_,T_,T_,T_,T_,T_,T_,T_,T_,T_,T_,T_,T_,F_] rfl rfl z1_ (fun _ _ _ h => h) (Or.inl ⟨rfl, z2_⟩) z3_ ?_; refine pure_ (i := 18) (N := some 2) #[T_,T_,T_,T_,T_,T_,T_,T_,T_,T_,T_,T_,T_,T_,T_,T_,T_,T_,T_] rfl rfl z1_ (fun _ _ _ h => h) (Or.inl ⟨rfl, z2_⟩) z3_ ?_; refine done_ (done_of HT_.out y35_) ?_; try go_wp2)
      first
      | fail_if_success clear m1_12
      |(clear m1_12; go_ret
        exact ⟨y5_, y6_⟩)
      first
      | fail_if_success clear m1_13
      |(clear m1_13; have p9548309 : 0 ≤ (x6_1 : Int) := of_decide_eq_true y3_; have q9548309 : x6_1 < (t217.length : Int) := of_decide_eq_true y3_; obtain ⟨ad9548309, e9548309, hx9548309_0⟩ := Kd.at_string (Kd.R_reads' HO_221001.out).2.2 x6_1 p9548309 q9548309; obtain rfl : ad9922068 = ad9548309 := (by injection e9548309); replace p9548309 := eq_true p9548309; replace q9548309 := eq_true q9548309)
      first
      | fail_if_success clear m1_14
      |(clear m1_14; have p9058667 : 0 ≤ (0 : Int) := (by omega); have q9058667 : 0 < (rdOf ByteArray.empty t217 x6_1).size := (by have : (0 : Int) < ((rdOf ByteArray.empty t217 x6_1).size : Int) := of_decide_eq_true y3_; omega); have hx9058667 : ∀ h : 0 < (rdOf ByteArray.empty t217 x6_1).size, (((rdOf ByteArray.empty t217 x6_1)[0]'h).toNat : Int) = bt (rdOf ByteArray.empty t217 x6_1) 0 := bt_at (rdOf ByteArray.empty t217 x6_1) 0; clear p9058667; have qi18 : (0 < ((rdOf ByteArray.empty t217 x6_1).size : Int)) = True := eq_true (of_decide_eq_true y3_); replace q9058667 := eq_true q9058667)
      first
      | fail_if_success clear m1_15
      |(clear m1_15; have p9450402 : 0 ≤ (x6_1 : Int) := of_decide_eq_true y3_; have q9450402 : x6_1 < (t217.length : Int) := of_decide_eq_true y3_; obtain ⟨ad9450402, e9450402, hx9450402_0⟩ := Kd.at_string (Kd.R_reads' HO_221001.out).2.2 x6_1 p9450402 q9450402; obtain rfl : ad9922068 = ad9450402 := (by injection e9450402); replace p9450402 := eq_true p9450402; replace q9450402 := eq_true q9450402)
      first
      | fail_if_success clear m1_16
      |(clear m1_16; have p9450402 : 0 ≤ ((ji22) : Int) := of_decide_eq_true y3_; have q9450402 : (ji22) < (t217.length : Int) := of_decide_eq_true y3_; obtain ⟨ad9450402, e9450402, hx9450402_0⟩ := Kd.at_string (Kd.R_reads' HO_221001.out).2.2 (ji22) p9450402 q9450402; obtain rfl : ad9922068 = ad9450402 := (by injection e9450402); replace p9450402 := eq_true p9450402; replace q9450402 := eq_true q9450402; have p9512952 : 0 ≤ (0 : Int) := (by omega); have q9512952 : 0 < (rdOf ByteArray.empty t217 (ji22)).size := (by have : (0 : Int) < ((rdOf ByteArray.empty t217 (ji22)).size : Int) := of_decide_eq_true y3_; omega); have hx9512952 : ∀ h : 0 < (rdOf ByteArray.empty t217 (ji22)).size, (((rdOf ByteArray.empty t217 (ji22))[0]'h).toNat : Int) = bt (rdOf ByteArray.empty t217 (ji22)) 0 := bt_at (rdOf ByteArray.empty t217 (ji22)) 0; clear p9512952; have qi26 : (0 < ((rdOf ByteArray.empty t217 (ji22)).size : Int)) = True := eq_true (of_decide_eq_true y3_); replace q9512952 := eq_true q9512952)
      first
      | fail_if_success clear m1_17
      |(clear m1_17; have p9120341 : 0 ≤ (x6_1 : Int) := of_decide_eq_true y3_; have q9120341 : x6_1 < (t217.length : Int) := of_decide_eq_true y3_; obtain ⟨ad9120341, e9120341, hx9120341_0⟩ := Kd.at_string (Kd.R_reads' HO_221001.out).2.2 x6_1 p9120341 q9120341; obtain rfl : ad9922068 = ad9120341 := (by injection e9120341); replace p9120341 := eq_true p9120341; replace q9120341 := eq_true q9120341)
      first
      | fail_if_success clear m1_18
      |(clear m1_18; go_wp2
        go_roundg k1
        case measure => have := HK1.out; omega
        case rel => exact ⟨(x5_1 ++ (rdOf ByteArray.empty t217 x6_1)), (wrap64 (x6_1 + 1)), y2_, y2_, H', ⟨y45_⟩, ⟨y50_⟩, ⟨y48_⟩, ⟨y6_⟩⟩)
      first
      | fail_if_success clear m1_19
      |(clear m1_19; go_wp2
        go_ret
        exact ⟨by first | rfl | (simp [errW_none, errW_some] <;> rfl) | (simp only [← hji22]; first | rfl | (simp [errW_none, errW_some] <;> rfl)) | (simp [*, errW_none, errW_some] <;> rfl), y6_⟩))
  ·rw [if_neg cx3] at H; have cx3b0 : (t216 == 0) = false := beq_eq_false_iff_ne.mpr cx3; have cx3b1 : (t216 != 0) = true := bne_iff_ne.mpr cx3; replace H := Option.bind_eq_some_iff.mp H; obtain ⟨⟨t221, t222⟩, A490, H⟩ := H; replace H : (some (t221 == t216)) = some r := H; have A49 := a_ A490; clear A490; obtain rfl := Option.some.inj H; go_enter Try.func4, Try.ntmps4
   try go_wp2_with (first | ((with_reducible refine gate_callee (f := 12) rfl ?_); refine gc_ 12 8 Try.func12 #[.slice A0 l0.length c0] ?_; (with_reducible refine (laws_lwBig.calls _ _ l0 false _ ?side1 ?side2 Ax0.out).mono ?_); (case side1 => repeat (first | exact HR0.out | (with_reducible refine Kd.C_alloc ?_ _) | (with_reducible refine Kd.C_drewN ?_ _) | (with_reducible refine Kd.C_drew ?_))); (case side2 => exact HC0.out); rintro e w' ⟨rfl, ⟨nd, rfl⟩⟩; refine ⟨_, rfl, ?_⟩) | ((with_reducible refine gate_callee (f := 13) rfl ?_); refine gc_ 13 10 Try.func13 #[.slice A0 l0.length c0] ?_; (with_reducible refine (spec_DrawCutMarks.calls k _ _ l0 tx2 _ ?side1 ?side2 Ax2.out).mono ?_); (case side1 => repeat (first | exact HR0.out | (with_reducible refine Kd.C_alloc ?_ _) | (with_reducible refine Kd.C_drewN ?_ _) | (with_reducible refine Kd.C_drew ?_))); (case side2 => exact HC0.out); rintro e w50 ⟨rfl, hb⟩; refine ⟨_, rfl, ?_⟩; have n0_ := a_ (below_step y0_ hb); clear HB; have HB := n0_; clear n0_; (try clear hb); (try clear hb2); (try clear hk); (try clear hi)) | ((with_reducible refine gate_callee (f := 8) rfl ?_); refine gc_ 8 12 Try.func8 #[.string tx2] ?_; (with_reducible refine (impl_CutMarks.calls k tx2 t216 t217 _ ?sideM A5.out).mono ?_); (case sideM => first | (exact ML_below hM y6_) | (repeat (first | exact hM | refine ML_drewN ?_ _ | refine ML_drew ?_ | refine ML_alloc ?_ _))); rintro e w51 ⟨v218, rfl, ho0, hb⟩; refine ⟨_, rfl, ?_⟩; have n0_ := a_ (Kd.R_lower ho0 (below_size y0_)); have n1_ := a_ (below_step y0_ hb); clear HB; have HO219 := n0_; have HB := n1_; clear n0_ n1_; (try clear hb); (try clear hb2); (try clear hk); (try clear hi); (try clear ho0)) | ((with_reducible refine gate_dst (N := 4) rfl ?_); refine box_event zr_ (N := 4) zr_ (cs := #[.int .i64 0, .slice none 0 0]) (t := 24) zs_ ?_; intro gb220 hg w52 hbox hb; have n0_ := a_ (Kd.R_below y46_ hb); have n1_ := a_ (below_step y0_ hb); have n2_ := a_ (hbox); have n3_ := a_ ((by rw [hg]; exact (below_size y0_) : w.heap.size ≤ gb220)); have n4_ := a_ ((by rw [hg]; exact (below_size y0_) : w.heap.size ≤ gb220)); clear HO219; clear HB; have HO219 := n0_; have HB := n1_; have BK220 := n2_; have GW220 := n3_; have GE220 := n4_; clear n0_ n1_ n2_ n3_ n4_; clear hb hbox hg; have hcz53_0 : w52.cell? ⟨gb220, 0, none⟩ = some (.int .i64 0) := (blk_cell BK220.out 0).trans rfl; have hcz53_1 : w52.cell? ⟨gb220, 1, none⟩ = some (.slice none 0 0) := (blk_cell BK220.out 1).trans rfl; have hfz53_0 := blk_frozen BK220.out 0; have hfz53_1 := blk_frozen BK220.out 1; obtain ⟨Ao54, co54, eo54⟩ := Kd.R_slice HO219.out; subst eo54))
   have n0_ : Aside0 (Kd.R Kd.string 9 ((w52.setCell ⟨gb220, 0, none⟩ (.int .i64 t216)).setCell ⟨gb220, 1, none⟩ (.slice Ao54 t217.length co54)) w.heap.size (fun _ => True) (.slice Ao54 t217.length co54) t217) := ⟨by (with_reducible repeat (first | apply Kd.R_alloc | apply Kd.R_drewN | apply Kd.R_drew)); exact Kd.R_mono (Kd.R_far (p := ⟨gb220, 1, none⟩) (Kd.R_far (p := ⟨gb220, 0, none⟩) (Kd.R_types HO219.out BK220.out (by decide)) (fun _ hk => hk.2) (.int .i64 t216)) (fun _ hk => hk.2) (.slice Ao54 t217.length co54)) (fun _ hk => trivial)⟩; have n1_ : Aside0 (((w52.setCell ⟨gb220, 0, none⟩ (.int .i64 t216)).setCell ⟨gb220, 1, none⟩ (.slice Ao54 t217.length co54)).heap[gb220]? = some (.cells #[.int .i64 t216, .slice Ao54 t217.length co54] 24 (0, 0))) := ⟨y38_⟩; have n2_ : Aside0 (Below w.heap.size w ((w52.setCell ⟨gb220, 0, none⟩ (.int .i64 t216)).setCell ⟨gb220, 1, none⟩ (.slice Ao54 t217.length co54))) := ⟨y6_⟩; (try clear HO219); (try clear BK220); (try clear HB); generalize ((w52.setCell ⟨gb220, 0, none⟩ (.int .i64 t216)).setCell ⟨gb220, 1, none⟩ (.slice Ao54 t217.length co54)) = w55 at n0_ n1_ n2_ ⊢; have HO219 := n0_; have BK220 := n1_; have HB := n2_; clear n0_ n1_ n2_; have n0_ := a_ (Kd.R_drew HO219.out); have n1_ := a_ (blk_drew BK220.out); have n2_ := a_ (below_drew1 HB.out); clear HO219; clear BK220; clear HB; have HO219 := n0_; have BK220 := n1_; have HB := n2_; clear n0_ n1_ n2_; refine start_ (n := 7) (S := fun w' => w'.cell? ⟨gb220, 0, none⟩ = some (.int .i64 t216) ∧ w'.cell? ⟨gb220, 1, none⟩ = some (.slice Ao54 t217.length co54)) (ds := []) #[F_,F_,F_,F_,F_,F_,F_] y35_ rfl rfl ⟨(blk_cell BK220.out 0).trans rfl, (blk_cell BK220.out 1).trans rfl⟩ (fun hHeld => ?_); generalize w55.drew = w56 at HO219 BK220 HB hHeld ⊢; refine pure_ (i := 0) (N := some 16) (v := ?_) (a' := ?_) #[T_,F_,F_,F_,F_,F_,F_] rfl rfl y35_ (fun _ _ _ h => h) (Or.inl ⟨by rfl, ?_⟩) ?_ ?_; rotate_left
   ·intro w'; go_simp
    with_reducible rfl
   rotate_left
   ·simp only [Act.put, List.setIfInBounds_toArray, List.set_cons_zero, List.set_cons_succ, i64_w, i32_w]
    rfl
   refine pure_ (i := 3) (N := some 19) (v := ?_) (a' := ?_) #[T_,F_,F_,T_,F_,F_,F_] rfl rfl y35_ (fun _ _ _ h => h) (Or.inl ⟨by rfl, ?_⟩) ?_ ?_; rotate_left
   ·intro w'; go_simp
    with_reducible rfl
   rotate_left
   ·simp only [Act.put, List.setIfInBounds_toArray, List.set_cons_zero, List.set_cons_succ, i64_w, i32_w]
    rfl
   refine take_ (i := 4) (N := some 20) (v := ?_) (a' := ?_) #[T_,F_,F_,T_,T_,F_,F_] rfl rfl y35_ (fun _ _ _ h => h) (Or.inl ⟨by rfl, ?_⟩) hHeld ?_ ?_; rotate_left
   ·rintro w' ⟨s0, s1⟩; go_simp
    with_reducible rfl
   rotate_left
   ·simp only [Act.put, List.setIfInBounds_toArray, List.set_cons_zero, List.set_cons_succ, i64_w, i32_w]
    rfl
   refine one_ (i := 1) (N := some 17) #[T_,T_,F_,T_,T_,F_,F_] rfl rfl y35_ (by decide) (fun K hK => ?_); refine goes_ Try.func7 y35_ rfl #[.string tx2] (by rfl) rfl rfl y22_ ?_; with_reducible refine (spec_CutMarks.calls k tx2 t221 t222 _ A49.out).mono ?_
   rintro e w57 ⟨v223, rfl, ho0, hb⟩; refine ⟨_, rfl, ?_⟩; have n0_ := a_ (Kd.R_elder' y46_ (Kd.R_base ho0) hb); have n1_ := a_ (Kd.R_lower (Kd.R_new' ho0 (Kd.R_lt y46_)) (below_size y6_)); have n2_ := a_ (blk_below (g := gb220) (o := .cells #[.int .i64 t216, .slice Ao54 t217.length co54] 24 (0, 0)) y48_ hb); have n3_ := a_ (below_step y6_ hb); clear HO219; clear BK220; clear HB; have HO219 := n0_; have HO224 := n1_; have BK220 := n2_; have HB := n3_; clear n0_ n1_ n2_ n3_; (try clear hb); (try clear hb2); (try clear hk); (try clear hi); (try clear ho0); refine hK.out _ _ ⟨(blk_cell BK220.out 0).trans rfl, (blk_cell BK220.out 1).trans rfl⟩ (fun hHeld => ?_); clear hK K; refine norm_ z8_ ?_; refine pure_ (i := 2) (N := some 18) (v := ?_) (a' := ?_) #[T_,T_,T_,T_,T_,F_,F_] rfl rfl y35_ (fun _ _ _ h => h) (Or.inl ⟨by rfl, ?_⟩) ?_ ?_; rotate_left
   ·intro w'; go_simp
    with_reducible rfl
   rotate_left
   ·simp only [Act.put, List.setIfInBounds_toArray, List.set_cons_zero, List.set_cons_succ, i64_w, i32_w]
    rfl
   refine pure_ (i := 5) (N := some 21) (v := ?_) (a' := ?_) #[T_,T_,T_,T_,T_,T_,F_] rfl rfl y35_ (fun _ _ _ h => h) (Or.inl ⟨by rfl, ?_⟩) ?_ ?_; rotate_left
   ·intro w'; go_simp
    with_reducible rfl
   rotate_left
   ·simp only [Act.put, List.setIfInBounds_toArray, List.set_cons_zero, List.set_cons_succ, i64_w, i32_w]
    rfl
   refine pure_ (i := 6) (N := some 2) (v := ?_) (a' := ?_) #[T_,T_,T_,T_,T_,T_,T_] rfl rfl y35_ (fun _ _ _ h => h) (Or.inl ⟨by rfl, ?_⟩) ?_ ?_; rotate_left
   ·intro w'; go_simp
    with_reducible rfl
   rotate_left
   ·simp only [Act.put, List.setIfInBounds_toArray, List.set_cons_zero, List.set_cons_succ, i64_w, i32_w]
    rfl
   refine done_ y35_ ?_; try go_wp2
   go_ret
   exact ⟨y5_, y6_⟩

/-- THE ONE PURE STATEMENT of laws_FnMarks: yours. -/
def laws_FnMarks.Pure : Prop := ∀ (l0 : List Int), l0.length ≤ maxLen → l0.length * 1 ≤ 140737488351232 → (∀ x ∈ l0, (Lit.int .u8 x).wf = true) → ∃ k, laws_FnMarks.f k l0 = some true
theorem laws_FnMarks.walk (P : laws_FnMarks.Pure) (a0 : Option Addr) (len0 cap0 : Nat) (z0 : List Int) (w : World) (hM : ML w) (w0 : (a0 = none ∧ len0 = 0 ∧ cap0 = 0 ∧ z0 = []) ∨ ∃ x, a0 = some x ∧ len0 ≤ cap0 ∧ cap0 ≤ maxLen ∧ z0.length = cap0 ∧ (∀ i, i < z0.length → w.cell? (x.add i) = some (.int .u8 (z0.getD i 0))) ∧ ∀ n ∈ z0, (Lit.int .u8 n).wf = true) (y0 : len0 * 1 ≤ 140737488351232) :
    Calls Try.prog 4 #[.slice a0 len0 cap0] w fun e w' => e = .returned (.bool true) ∧ Below w.heap.size w w' := by
  obtain ⟨l0, rfl, hr0, hm0, hw0, hc0⟩ := ReadsInt.ofRowC w0
  obtain ⟨k, h⟩ := P l0 hm0 y0 hw0
  refine (laws_FnMarks.calls k _ _ l0 true w hM (Kd.C_of_reads (d := (0 : Int)) (h1 := fun _ => rfl) hr0) hc0 h).mono ?_
  rintro e w' ⟨rfl, hd⟩
  exact ⟨rfl, hd⟩

end Go.Proofs.Ytmppibhdnajjjaa.C
