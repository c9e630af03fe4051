-- Written by a program of this session's own (xp.py) for this seat.
import Derived.Test.YtcpcenhpmcfmjaaLZ
import Derived.Test.YtcpcenhpmcfmjaaL0
import Derived.Test.YtcpcenhpmcfmjaaL2
namespace Go.Proofs.Ytcpcenhpmcfmjaa.L
open Go.RowKit Go.Proofs.YtcpcenhpmcfmjaaW.PrintWords Go.Proofs.YtcpcenhpmcfmjaaW.PrintLast Go.Proofs.YtcpcenhpmcfmjaaW.PrintMore
attribute [local go_sem] Instr.field asAgg
attribute [local go_sem] max2_int min2_int max_two min_two max_three min_three max_four min_four   -- for this text's walks alone
set_option linter.unusedVariables false
set_option linter.unusedSimpArgs false

/-! ### laws_eqStep: function 61 -/
def laws_eqStep.f (k : Nat) (a0_0 : Int) (a0_1 : Int) (a0_2 : ByteArray) (a0_3 : Int) (l0_4 : List (S139)) (l0_5 : List (S139)) (a1_0 : Int) (a1_1 : Int) (a1_2 : ByteArray) (a1_3 : Int) (l1_4 : List (S139)) (l1_5 : List (S139)) : Option (Bool) := if a0_0 = a1_0 then (if a0_1 = a1_1 then (if a0_2.toList = a1_2.toList then (if a0_3 = a1_3 then ((laws_eqNodeS.f k l0_4 l1_4).bind fun t161 => (if t161 = true then ((laws_eqNodeS.f k l0_5 l1_5).bind fun t162 => (if t162 = true then (some true) else (some false))) else (some false))) else (some false)) else (some false)) else (some false)) else (some false)
theorem laws_eqStep.mono : ∀ a0 a1 a2 a3 a4 a5 a6 a7 a8 a9 a10 a11 k, LeO (laws_eqStep.f k a0 a1 a2 a3 a4 a5 a6 a7 a8 a9 a10 a11) (laws_eqStep.f (k + 1) a0 a1 a2 a3 a4 a5 a6 a7 a8 a9 a10 a11) := by
  intro a0 a1 a2 a3 a4 a5 a6 a7 a8 a9 a10 a11 k
  unfold laws_eqStep.f
  repeat' (with_reducible first | exact laws_eqNodeS.mono _ _ _ | exact LeO.refl _ | exact LeO.none _ | refine LeO.ite ?_ ?_ | refine LeO.bind ?_ (fun _ => ?_))
set_option maxHeartbeats 8000000 in
set_option maxRecDepth 100000 in
theorem laws_eqStep.calls (k : Nat) (a0_0 : Int) (a0_1 : Int) (a0_2 : ByteArray) (a0_3 : Int) (A0_4 : Option Addr) (c0_4 : Nat) (l0_4 : List (S139)) (A0_5 : Option Addr) (c0_5 : Nat) (l0_5 : List (S139)) (a1_0 : Int) (a1_1 : Int) (a1_2 : ByteArray) (a1_3 : Int) (A1_4 : Option Addr) (c1_4 : Nat) (l1_4 : List (S139)) (A1_5 : Option Addr) (c1_5 : Nat) (l1_5 : List (S139)) (r : Bool) (w : World) (hr0_4 : Kd.C k139 w A0_4 l0_4.length l0_4) (hc0_4 : l0_4.length ≤ c0_4) (hr0_5 : Kd.C k139 w A0_5 l0_5.length l0_5) (hc0_5 : l0_5.length ≤ c0_5) (hr1_4 : Kd.C k139 w A1_4 l1_4.length l1_4) (hc1_4 : l1_4.length ≤ c1_4) (hr1_5 : Kd.C k139 w A1_5 l1_5.length l1_5) (hc1_5 : l1_5.length ≤ c1_5) (h : laws_eqStep.f k a0_0 a0_1 a0_2 a0_3 l0_4 l0_5 a1_0 a1_1 a1_2 a1_3 l1_4 l1_5 = some r) :
    Calls Try.prog 61 #[.agg #[.int .i64 a0_0, .int .i64 a0_1, .string a0_2, .int .i64 a0_3, .slice A0_4 l0_4.length c0_4, .slice A0_5 l0_5.length c0_5], .agg #[.int .i64 a1_0, .int .i64 a1_1, .string a1_2, .int .i64 a1_3, .slice A1_4 l1_4.length c1_4, .slice A1_5 l1_5.length c1_5]] w fun e w' => e = .returned (.bool r) ∧ Below w.heap.size w w' := by
 have hu78 := Try.underlying78; have HR0_4 := a_ hr0_4; have HC0_4 := a_ hc0_4; clear hr0_4 hc0_4; have HR0_5 := a_ hr0_5; have HC0_5 := a_ hc0_5; clear hr0_5 hc0_5; have HR1_4 := a_ hr1_4; have HC1_4 := a_ hc1_4; clear hr1_4 hc1_4; have HR1_5 := a_ hr1_5; have HC1_5 := a_ hc1_5; clear hr1_5 hc1_5; have HB := a_ (Below.refl w.heap.size w); have H : (if a0_0 = a1_0 then (if a0_1 = a1_1 then (if a0_2.toList = a1_2.toList then (if a0_3 = a1_3 then ((laws_eqNodeS.f k l0_4 l1_4).bind fun t161 => (if t161 = true then ((laws_eqNodeS.f k l0_5 l1_5).bind fun t162 => (if t162 = true then (some true) else (some false))) else (some false))) else (some false)) else (some false)) else (some false)) else (some false)) = some r := h; clear h; by_cases cx0 : a0_0 = a1_0; rw [if_pos cx0] at H; have cx0b0 : (a0_0 == a1_0) = true := beq_iff_eq.mpr cx0; have cx0b1 : (a0_0 != a1_0) = false := bne_eq_false_iff_eq.mpr cx0; clear cx0; by_cases cx1 : a0_1 = a1_1; rw [if_pos cx1] at H; have cx1b0 : (a0_1 == a1_1) = true := beq_iff_eq.mpr cx1; have cx1b1 : (a0_1 != a1_1) = false := bne_eq_false_iff_eq.mpr cx1; clear cx1; by_cases cx2 : a0_2.toList = a1_2.toList; rw [if_pos cx2] at H; have cx2b0 : (a0_2.toList == a1_2.toList) = true := beq_iff_eq.mpr cx2; have cx2b1 : (a0_2.toList != a1_2.toList) = false := bne_eq_false_iff_eq.mpr cx2; clear cx2; by_cases cx3 : a0_3 = a1_3; rw [if_pos cx3] at H; have cx3b0 : (a0_3 == a1_3) = true := beq_iff_eq.mpr cx3; have cx3b1 : (a0_3 != a1_3) = false := bne_eq_false_iff_eq.mpr cx3; clear cx3; replace H := Option.bind_eq_some_iff.mp H; obtain ⟨tx4, Ay4, H⟩ := H; have Ax4 := a_ Ay4; clear Ay4; by_cases cx5 : tx4 = true; subst cx5; rw [if_pos rfl] at H; replace H := Option.bind_eq_some_iff.mp H; obtain ⟨tx6, Ay6, H⟩ := H; have Ax6 := a_ Ay6; clear Ay6; by_cases cx7 : tx6 = true; subst cx7; rw [if_pos rfl] at H; obtain rfl := Option.some.inj H; have m0_0 := t_; have m0_1 := t_; rotate_left; replace cx7 := Bool.eq_false_iff.mpr cx7; subst cx7; rw [if_neg (show ¬ (false = true) by decide)] at H; obtain rfl := Option.some.inj H; have m0_0 := t_; have m0_1 := t_; rotate_left; replace cx5 := Bool.eq_false_iff.mpr cx5; subst cx5; rw [if_neg (show ¬ (false = true) by decide)] at H; obtain rfl := Option.some.inj H; have m0_2 := t_; rotate_left; rw [if_neg cx3] at H; have cx3b0 : (a0_3 == a1_3) = false := beq_eq_false_iff_ne.mpr cx3; have cx3b1 : (a0_3 != a1_3) = true := bne_iff_ne.mpr cx3; obtain rfl := Option.some.inj H; rotate_left; rw [if_neg cx2] at H; have cx2b0 : (a0_2.toList == a1_2.toList) = false := beq_eq_false_iff_ne.mpr cx2; have cx2b1 : (a0_2.toList != a1_2.toList) = true := bne_iff_ne.mpr cx2; obtain rfl := Option.some.inj H; rotate_left; rw [if_neg cx1] at H; have cx1b0 : (a0_1 == a1_1) = false := beq_eq_false_iff_ne.mpr cx1; have cx1b1 : (a0_1 != a1_1) = true := bne_iff_ne.mpr cx1; obtain rfl := Option.some.inj H
 rotate_left; rw [if_neg cx0] at H; have cx0b0 : (a0_0 == a1_0) = false := beq_eq_false_iff_ne.mpr cx0; have cx0b1 : (a0_0 != a1_0) = true := bne_iff_ne.mpr cx0; obtain rfl := Option.some.inj H; rotate_left
 all_goals (
  go_enter Try.func61, Try.ntmps61
  go_wp2_with (first | ((with_reducible refine gate_dst (N := 2) rfl ?_); refine box_event zr_ (N := 2) zr_ (cs := #[.int .i64 a0_0, .int .i64 a0_1, .string a0_2, .int .i64 a0_3, .slice A0_4 l0_4.length c0_4, .slice A0_5 l0_5.length c0_5]) (t := 78) zs_ ?_; intro gb9246313 hg w9824422 hbox hb; have n0_ := a_ (below_step y0_ hb); have n1_ := a_ (hbox); have n2_ := a_ ((by rw [hg]; exact (below_size y0_) : w.heap.size ≤ gb9246313)); have n3_ := a_ ((by rw [hg]; exact (below_size y0_) : w.heap.size ≤ gb9246313)); clear HB; have HB := n0_; have BK9246313 := n1_; have GW9246313 := n2_; have GE9246313 := n3_; clear n0_ n1_ n2_ n3_; clear hb hbox hg) | ((with_reducible refine gate_dst (N := 3) rfl ?_); refine box_event zr_ (N := 3) zr_ (cs := #[.int .i64 a1_0, .int .i64 a1_1, .string a1_2, .int .i64 a1_3, .slice A1_4 l1_4.length c1_4, .slice A1_5 l1_5.length c1_5]) (t := 78) zs_ ?_; intro gb9782191 hg w9755238 hbox hb; have n0_ := a_ (blk_below (g := gb9246313) (o := .cells #[.int .i64 a0_0, .int .i64 a0_1, .string a0_2, .int .i64 a0_3, .slice A0_4 l0_4.length c0_4, .slice A0_5 l0_5.length c0_5] 78 (0, 0)) y90_ hb); have n1_ := a_ (below_step y160_ hb); have n2_ := a_ (hbox); have n3_ := a_ ((by rw [hg]; exact (below_size y160_) : w.heap.size ≤ gb9782191)); have n4_ := a_ ((by rw [hg]; exact (below_size y160_) : w.heap.size ≤ gb9782191)); have n5_ := a_ ((by rw [hg]; exact Nat.ne_of_lt (blk_lt (g := gb9246313) (o := .cells #[.int .i64 a0_0, .int .i64 a0_1, .string a0_2, .int .i64 a0_3, .slice A0_4 l0_4.length c0_4, .slice A0_5 l0_5.length c0_5] 78 (0, 0)) y90_) : gb9246313 ≠ gb9782191)); have n6_ := a_ ((by rw [hg]; exact Nat.ne_of_gt (blk_lt (g := gb9246313) (o := .cells #[.int .i64 a0_0, .int .i64 a0_1, .string a0_2, .int .i64 a0_3, .slice A0_4 l0_4.length c0_4, .slice A0_5 l0_5.length c0_5] 78 (0, 0)) y90_) : gb9782191 ≠ gb9246313)); clear BK9246313; clear HB; have BK9246313 := n0_; have HB := n1_; have BK9782191 := n2_; have GW9782191 := n3_; have GE9782191 := n4_; have NB159_160 := n5_; have NB160_159 := n6_; clear n0_ n1_ n2_ n3_ n4_ n5_ n6_; clear hb hbox hg; have hnb9016009 := NB159_160.out; have hnc9016009 := NB160_159.out; have hcz9579945_0 : w9755238.cell? ⟨gb9246313, 0, none⟩ = some (.int .i64 a0_0) := (blk_cell BK9246313.out 0).trans rfl; have hcz9579945_1 : w9755238.cell? ⟨gb9246313, 1, none⟩ = some (.int .i64 a0_1) := (blk_cell BK9246313.out 1).trans rfl; have hcz9579945_2 : w9755238.cell? ⟨gb9246313, 2, none⟩ = some (.string a0_2) := (blk_cell BK9246313.out 2).trans rfl; have hcz9579945_3 : w9755238.cell? ⟨gb9246313, 3, none⟩ = some (.int .i64 a0_3) := (blk_cell BK9246313.out 3).trans rfl; have hcz9579945_4 : w9755238.cell? ⟨gb9246313, 4, none⟩ = some (.slice A0_4 l0_4.length c0_4) := (blk_cell BK9246313.out 4).trans rfl; have hcz9579945_5 : w9755238.cell? ⟨gb9246313, 5, none⟩ = some (.slice A0_5 l0_5.length c0_5) := (blk_cell BK9246313.out 5).trans rfl; have hfz9579945_0 := blk_frozen BK9246313.out 0; have hfz9579945_1 := blk_frozen BK9246313.out 1; have hfz9579945_2 := blk_frozen BK9246313.out 2; have hfz9579945_3 := blk_frozen BK9246313.out 3; have hfz9579945_4 := blk_frozen BK9246313.out 4; have hfz9579945_5 := blk_frozen BK9246313.out 5; have hcz9870827_0 : w9755238.cell? ⟨gb9782191, 0, none⟩ = some (.int .i64 a1_0) := (blk_cell BK9782191.out 0).trans rfl; have hcz9870827_1 : w9755238.cell? ⟨gb9782191, 1, none⟩ = some (.int .i64 a1_1) := (blk_cell BK9782191.out 1).trans rfl; have hcz9870827_2 : w9755238.cell? ⟨gb9782191, 2, none⟩ = some (.string a1_2) := (blk_cell BK9782191.out 2).trans rfl; have hcz9870827_3 : w9755238.cell? ⟨gb9782191, 3, none⟩ = some (.int .i64 a1_3) := (blk_cell BK9782191.out 3).trans rfl; have hcz9870827_4 : w9755238.cell? ⟨gb9782191, 4, none⟩ = some (.slice A1_4 l1_4.length c1_4) := (blk_cell BK9782191.out 4).trans rfl; have hcz9870827_5 : w9755238.cell? ⟨gb9782191, 5, none⟩ = some (.slice A1_5 l1_5.length c1_5) := (blk_cell BK9782191.out 5).trans rfl; have hfz9870827_0 := blk_frozen BK9782191.out 0; have hfz9870827_1 := blk_frozen BK9782191.out 1; have hfz9870827_2 := blk_frozen BK9782191.out 2; have hfz9870827_3 := blk_frozen BK9782191.out 3; have hfz9870827_4 := blk_frozen BK9782191.out 4; have hfz9870827_5 := blk_frozen BK9782191.out 5) | (have mkq_ := m0_0; clear mkq_; refine gc_ 103 29 Try.func103 #[.slice A0_4 l0_4.length c0_4, .slice A1_4 l1_4.length c1_4] ?_; (with_reducible refine (laws_eqNodeS.calls k _ _ l0_4 _ _ l1_4 _ _ ?side1 ?side2 ?side3 ?side4 Ax4.out).mono ?_); (case side1 => repeat (first | exact (Kd.C_below HR0_4.out HB.out) | (with_reducible refine Kd.C_alloc ?_ _) | (with_reducible refine Kd.C_drewN ?_ _) | (with_reducible refine Kd.C_drew ?_))); (case side2 => exact HC0_4.out); (case side3 => repeat (first | exact (Kd.C_below HR1_4.out HB.out) | (with_reducible refine Kd.C_alloc ?_ _) | (with_reducible refine Kd.C_drewN ?_ _) | (with_reducible refine Kd.C_drew ?_))); (case side4 => exact HC1_4.out); rintro e w9511795 ⟨rfl, hb⟩; refine ⟨_, rfl, ?_⟩; have n0_ := a_ (blk_below (g := gb9246313) (o := .cells #[.int .i64 a0_0, .int .i64 a0_1, .string a0_2, .int .i64 a0_3, .slice A0_4 l0_4.length c0_4, .slice A0_5 l0_5.length c0_5] 78 (0, 0)) y90_ hb); have n1_ := a_ (blk_below (g := gb9782191) (o := .cells #[.int .i64 a1_0, .int .i64 a1_1, .string a1_2, .int .i64 a1_3, .slice A1_4 l1_4.length c1_4, .slice A1_5 l1_5.length c1_5] 78 (0, 0)) y175_ hb); have n2_ := a_ (below_step y89_ hb); clear BK9246313; clear BK9782191; clear HB; have BK9246313 := n0_; have BK9782191 := n1_; have HB := n2_; clear n0_ n1_ n2_; (try clear hb); (try clear hb9405597); (try clear hk); (try clear hi); have hcz9513009_0 : w9511795.cell? ⟨gb9246313, 0, none⟩ = some (.int .i64 a0_0) := (blk_cell BK9246313.out 0).trans rfl; have hcz9513009_1 : w9511795.cell? ⟨gb9246313, 1, none⟩ = some (.int .i64 a0_1) := (blk_cell BK9246313.out 1).trans rfl; have hcz9513009_2 : w9511795.cell? ⟨gb9246313, 2, none⟩ = some (.string a0_2) := (blk_cell BK9246313.out 2).trans rfl; have hcz9513009_3 : w9511795.cell? ⟨gb9246313, 3, none⟩ = some (.int .i64 a0_3) := (blk_cell BK9246313.out 3).trans rfl; have hcz9513009_4 : w9511795.cell? ⟨gb9246313, 4, none⟩ = some (.slice A0_4 l0_4.length c0_4) := (blk_cell BK9246313.out 4).trans rfl; have hcz9513009_5 : w9511795.cell? ⟨gb9246313, 5, none⟩ = some (.slice A0_5 l0_5.length c0_5) := (blk_cell BK9246313.out 5).trans rfl; have hfz9513009_0 := blk_frozen BK9246313.out 0; have hfz9513009_1 := blk_frozen BK9246313.out 1; have hfz9513009_2 := blk_frozen BK9246313.out 2; have hfz9513009_3 := blk_frozen BK9246313.out 3; have hfz9513009_4 := blk_frozen BK9246313.out 4; have hfz9513009_5 := blk_frozen BK9246313.out 5; have hcz9189627_0 : w9511795.cell? ⟨gb9782191, 0, none⟩ = some (.int .i64 a1_0) := (blk_cell BK9782191.out 0).trans rfl; have hcz9189627_1 : w9511795.cell? ⟨gb9782191, 1, none⟩ = some (.int .i64 a1_1) := (blk_cell BK9782191.out 1).trans rfl; have hcz9189627_2 : w9511795.cell? ⟨gb9782191, 2, none⟩ = some (.string a1_2) := (blk_cell BK9782191.out 2).trans rfl; have hcz9189627_3 : w9511795.cell? ⟨gb9782191, 3, none⟩ = some (.int .i64 a1_3) := (blk_cell BK9782191.out 3).trans rfl; have hcz9189627_4 : w9511795.cell? ⟨gb9782191, 4, none⟩ = some (.slice A1_4 l1_4.length c1_4) := (blk_cell BK9782191.out 4).trans rfl; have hcz9189627_5 : w9511795.cell? ⟨gb9782191, 5, none⟩ = some (.slice A1_5 l1_5.length c1_5) := (blk_cell BK9782191.out 5).trans rfl; have hfz9189627_0 := blk_frozen BK9782191.out 0; have hfz9189627_1 := blk_frozen BK9782191.out 1; have hfz9189627_2 := blk_frozen BK9782191.out 2; have hfz9189627_3 := blk_frozen BK9782191.out 3; have hfz9189627_4 := blk_frozen BK9782191.out 4; have hfz9189627_5 := blk_frozen BK9782191.out 5) | (have mkq_ := m0_1; clear mkq_; refine gc_ 103 35 Try.func103 #[.slice A0_5 l0_5.length c0_5, .slice A1_5 l1_5.length c1_5] ?_; (with_reducible refine (laws_eqNodeS.calls k _ _ l0_5 _ _ l1_5 _ _ ?side1 ?side2 ?side3 ?side4 Ax6.out).mono ?_); (case side1 => repeat (first | exact (Kd.C_below HR0_5.out HB.out) | (with_reducible refine Kd.C_alloc ?_ _) | (with_reducible refine Kd.C_drewN ?_ _) | (with_reducible refine Kd.C_drew ?_))); (case side2 => exact HC0_5.out); (case side3 => repeat (first | exact (Kd.C_below HR1_5.out HB.out) | (with_reducible refine Kd.C_alloc ?_ _) | (with_reducible refine Kd.C_drewN ?_ _) | (with_reducible refine Kd.C_drew ?_))); (case side4 => exact HC1_5.out); rintro e w9307188 ⟨rfl, hb⟩; refine ⟨_, rfl, ?_⟩; have n0_ := a_ (blk_below (g := gb9246313) (o := .cells #[.int .i64 a0_0, .int .i64 a0_1, .string a0_2, .int .i64 a0_3, .slice A0_4 l0_4.length c0_4, .slice A0_5 l0_5.length c0_5] 78 (0, 0)) y90_ hb); have n1_ := a_ (blk_below (g := gb9782191) (o := .cells #[.int .i64 a1_0, .int .i64 a1_1, .string a1_2, .int .i64 a1_3, .slice A1_4 l1_4.length c1_4, .slice A1_5 l1_5.length c1_5] 78 (0, 0)) y175_ hb); have n2_ := a_ (below_step y89_ hb); clear BK9246313; clear BK9782191; clear HB; have BK9246313 := n0_; have BK9782191 := n1_; have HB := n2_; clear n0_ n1_ n2_; (try clear hb); (try clear hb9405597); (try clear hk); (try clear hi)) | (have mkq_ := m0_2; clear mkq_; refine gc_ 103 29 Try.func103 #[.slice A0_4 l0_4.length c0_4, .slice A1_4 l1_4.length c1_4] ?_; (with_reducible refine (laws_eqNodeS.calls k _ _ l0_4 _ _ l1_4 _ _ ?side1 ?side2 ?side3 ?side4 Ax4.out).mono ?_); (case side1 => repeat (first | exact (Kd.C_below HR0_4.out HB.out) | (with_reducible refine Kd.C_alloc ?_ _) | (with_reducible refine Kd.C_drewN ?_ _) | (with_reducible refine Kd.C_drew ?_))); (case side2 => exact HC0_4.out); (case side3 => repeat (first | exact (Kd.C_below HR1_4.out HB.out) | (with_reducible refine Kd.C_alloc ?_ _) | (with_reducible refine Kd.C_drewN ?_ _) | (with_reducible refine Kd.C_drew ?_))); (case side4 => exact HC1_4.out); rintro e w9511795 ⟨rfl, hb⟩; refine ⟨_, rfl, ?_⟩; have n0_ := a_ (blk_below (g := gb9246313) (o := .cells #[.int .i64 a0_0, .int .i64 a0_1, .string a0_2, .int .i64 a0_3, .slice A0_4 l0_4.length c0_4, .slice A0_5 l0_5.length c0_5] 78 (0, 0)) y90_ hb); have n1_ := a_ (blk_below (g := gb9782191) (o := .cells #[.int .i64 a1_0, .int .i64 a1_1, .string a1_2, .int .i64 a1_3, .slice A1_4 l1_4.length c1_4, .slice A1_5 l1_5.length c1_5] 78 (0, 0)) y175_ hb); have n2_ := a_ (below_step y89_ hb); clear BK9246313; clear BK9782191; clear HB; have BK9246313 := n0_; have BK9782191 := n1_; have HB := n2_; clear n0_ n1_ n2_; (try clear hb); (try clear hb9405597); (try clear hk); (try clear hi)))
  go_ret
  exact ⟨y3_, y89_⟩)

/-! ### laws_eqStepS: function 25 -/
def laws_eqStepS.l0 : Nat → List (S78) → List (S78) → Int → Option (Bool)
  | 0, _, _, _ => none
  | k + 1, x0, x1, x5 => if x5 < (x0.length : Int) then (if 0 ≤ x5 then (if x5 < (x1.length : Int) then ((laws_eqStep.f k ((rd_T78 x0 x5).f0) ((rd_T78 x0 x5).f1) ((rd_T78 x0 x5).f2) ((rd_T78 x0 x5).f3) ((rd_T78 x0 x5).f4) ((rd_T78 x0 x5).f5) ((rd_T78 x1 x5).f0) ((rd_T78 x1 x5).f1) ((rd_T78 x1 x5).f2) ((rd_T78 x1 x5).f3) ((rd_T78 x1 x5).f4) ((rd_T78 x1 x5).f5)).bind fun t165 => (if t165 = true then (laws_eqStepS.l0 k x0 x1 (wrap64 (x5 + 1))) else (some false))) else (none)) else (none)) else (some true)
def laws_eqStepS.f (k : Nat) (l0 : List (S78)) (l1 : List (S78)) : Option (Bool) := if (l0.length : Int) = (l1.length : Int) then (laws_eqStepS.l0 k l0 l1 0) else (some false)
theorem laws_eqStepS.mono_l : ∀ k, (∀ y0 y1 y2, LeO (laws_eqStepS.l0 k y0 y1 y2) (laws_eqStepS.l0 (k + 1) y0 y1 y2))
  | 0 => fun _ _ _ r h => by simp [laws_eqStepS.l0] at h
  | k + 1 => by
    have ih0 := laws_eqStepS.mono_l k
    · intro y0 y1 y2
      unfold laws_eqStepS.l0
      repeat' (with_reducible first | exact ih0 _ _ _ | exact laws_eqStep.mono _ _ _ _ _ _ _ _ _ _ _ _ _ | exact LeO.refl _ | exact LeO.none _ | refine LeO.ite ?_ ?_ | refine LeO.bind ?_ (fun _ => ?_))
theorem laws_eqStepS.mono : ∀ a0 a1 k, LeO (laws_eqStepS.f k a0 a1) (laws_eqStepS.f (k + 1) a0 a1) := by
  intro a0 a1 k
  have ih0 := laws_eqStepS.mono_l k
  unfold laws_eqStepS.f
  repeat' (with_reducible first | exact ih0 _ _ _ | exact laws_eqStep.mono _ _ _ _ _ _ _ _ _ _ _ _ _ | exact LeO.refl _ | exact LeO.none _ | refine LeO.ite ?_ ?_ | refine LeO.bind ?_ (fun _ => ?_))
def laws_eqStepS.T6 : Bool × List (List Nat × List Nat) := (true, [([], []), ([], []), ([0, 1], [0, 1]), ([2], [2]), ([], []), ([], []), ([4, 5], [4, 5]), ([6], [6]), ([3, 7], [3, 7]), ([8], [8])])
def laws_eqStepS.B6 : List Nat := [0, 0, 3, 7, 0, 0, 48, 112, 255, 511]
theorem laws_eqStepS.tab6 : rtab .any (opsOf Try.f25 6) = laws_eqStepS.T6 := by kernel_rfl
theorem laws_eqStepS.bits6 : waitsOk laws_eqStepS.T6.2 laws_eqStepS.B6 = true := by kernel_rfl
set_option maxHeartbeats 8000000 in
set_option maxRecDepth 100000 in
theorem laws_eqStepS.calls (k : Nat) (A0 : Option Addr) (c0 : Nat) (l0 : List (S78)) (A1 : Option Addr) (c1 : Nat) (l1 : List (S78)) (r : Bool) (w : World) (hr0 : Kd.C k78 w A0 l0.length l0) (hc0 : l0.length ≤ c0) (hr1 : Kd.C k78 w A1 l1.length l1) (hc1 : l1.length ≤ c1) (h : laws_eqStepS.f k l0 l1 = some r) :
    Calls Try.prog 25 #[.slice A0 l0.length c0, .slice A1 l1.length c1] w fun e w' => e = .returned (.bool r) ∧ Below w.heap.size w w' := by
 have hu78 := Try.underlying78; have HR0 := a_ hr0; have HC0 := a_ hc0; clear hr0 hc0; have HR1 := a_ hr1; have HC1 := a_ hc1; clear hr1 hc1; have HB := a_ (Below.refl w.heap.size w); have H : (if (l0.length : Int) = (l1.length : Int) then (laws_eqStepS.l0 k l0 l1 0) else (some false)) = some r := h; clear h; by_cases cx0 : (l0.length : Int) = (l1.length : Int)
 ·rw [if_pos cx0] at H; have cx0b0 : ((l0.length : Int) == (l1.length : Int)) = true := beq_iff_eq.mpr cx0; have cx0b1 : ((l0.length : Int) != (l1.length : Int)) = false := bne_eq_false_iff_eq.mpr cx0; have cx0b2 : (l0.length == l1.length) = true := by first | simpa using cx0 | (simp at cx0 ⊢; omega)
  clear cx0; have H' := a_ H; clear H; go_enter Try.func25, Try.ntmps25
  go_wp2
  go_loopg [5] k (fun kq v5 w' => ∃ (x5_1 : Int), v5 = .int .i64 x5_1 ∧ Aside0 (laws_eqStepS.l0 kq l0 l1 x5_1 = some r) ∧ Aside0 (kq ≤ k) ∧ Aside0 (Below w.heap.size w w'))
  case atStart => exact ⟨(0), y1_, H', ⟨Nat.le_refl _⟩, ⟨y0_⟩⟩
  case round =>
   clear H'; (try clear cx0); (try clear cx0b0); (try clear cx0b1); (try clear cx0b2); obtain ⟨x5_1, rfl, HA, HK1, HB⟩ := hrel; cases gk with
   | zero => exact absurd HA.out (by simp [laws_eqStepS.l0])
   | succ k1 =>
    have H := HA.out; clear HA; simp only [laws_eqStepS.l0] at H; by_cases cx1 : x5_1 < (l0.length : Int); rw [if_pos cx1] at H; have cx1b0 : decide (x5_1 < (l0.length : Int)) = true := decide_eq_true cx1; clear cx1; by_cases cx2 : 0 ≤ x5_1; rw [if_pos cx2] at H; have cx2b0 : decide (0 ≤ x5_1) = true := decide_eq_true cx2; clear cx2; by_cases cx3 : x5_1 < (l1.length : Int); rw [if_pos cx3] at H; have cx3b0 : decide (x5_1 < (l1.length : Int)) = true := decide_eq_true cx3; clear cx3; replace H := Option.bind_eq_some_iff.mp H; obtain ⟨tx4, Ay4, H⟩ := H; have Ax4 := a_ Ay4; clear Ay4; by_cases cx5 : tx4 = true; subst cx5; rw [if_pos rfl] at H; have H' := a_ H; clear H; have m1_0 := t_; have m1_1 := t_; rotate_left; replace cx5 := Bool.eq_false_iff.mpr cx5; subst cx5; rw [if_neg (show ¬ (false = true) by decide)] at H; obtain rfl := Option.some.inj H; have m1_0 := t_; have m1_2 := t_; rotate_left
    ·rw [if_neg cx3] at H; exact absurd H y92_
    ·rw [if_neg cx2] at H; exact absurd H y92_
    rw [if_neg cx1] at H; have cx1b0 : decide (x5_1 < (l0.length : Int)) = false := decide_eq_false cx1; clear cx1; obtain rfl := Option.some.inj H; have m1_3 := t_; rotate_left
    all_goals (
     first
     | fail_if_success clear m1_0
     |(clear m1_0; try go_wp2
       have n0_ := a_ (below_drew1 HB.out); clear HB; have HB := n0_; clear n0_; have p9922068 : 0 ≤ (x5_1 : Int) := of_decide_eq_true y2_; have q9922068 : x5_1 < (l0.length : Int) := of_decide_eq_true y2_; obtain ⟨ad9922068, A163_4, c163_4, A163_5, c163_5, e9922068, hx9922068_0, hx9922068_1, hx9922068_2, hx9922068_3, hx9922068_4, hx9922068_5, hl9922068_4, hi163_4, hl9922068_5, hi163_5⟩ := at_T78 HR0.out x5_1 p9922068 q9922068; have hw9922068_5 := hx9922068_5; have hw9922068_4 := hx9922068_4; have hw9922068_3 := hx9922068_3; have hw9922068_2 := hx9922068_2; have hw9922068_1 := hx9922068_1; have hw9922068_0 := hx9922068_0; cases e9922068; replace hx9922068_0 := cT_ HB.out hx9922068_0; replace hx9922068_1 := cT_ HB.out hx9922068_1; replace hx9922068_2 := cT_ HB.out hx9922068_2; replace hx9922068_3 := cT_ HB.out hx9922068_3; replace hx9922068_4 := cT_ HB.out hx9922068_4; replace hx9922068_5 := cT_ HB.out hx9922068_5; have HR163_4 := a_ hi163_4; have HC163_4 := a_ hl9922068_4; clear hi163_4 hl9922068_4; have HR163_5 := a_ hi163_5; have HC163_5 := a_ hl9922068_5; clear hi163_5 hl9922068_5; replace p9922068 := eq_true p9922068; replace q9922068 := eq_true q9922068; have p9548309 : 0 ≤ (x5_1 : Int) := of_decide_eq_true y2_; have q9548309 : x5_1 < (l1.length : Int) := of_decide_eq_true y2_; obtain ⟨ad9548309, A164_4, c164_4, A164_5, c164_5, e9548309, hx9548309_0, hx9548309_1, hx9548309_2, hx9548309_3, hx9548309_4, hx9548309_5, hl9548309_4, hi164_4, hl9548309_5, hi164_5⟩ := at_T78 HR1.out x5_1 p9548309 q9548309; have hw9548309_5 := hx9548309_5; have hw9548309_4 := hx9548309_4; have hw9548309_3 := hx9548309_3; have hw9548309_2 := hx9548309_2; have hw9548309_1 := hx9548309_1; have hw9548309_0 := hx9548309_0; cases e9548309; replace hx9548309_0 := cT_ HB.out hx9548309_0; replace hx9548309_1 := cT_ HB.out hx9548309_1; replace hx9548309_2 := cT_ HB.out hx9548309_2; replace hx9548309_3 := cT_ HB.out hx9548309_3; replace hx9548309_4 := cT_ HB.out hx9548309_4; replace hx9548309_5 := cT_ HB.out hx9548309_5; have HR164_4 := a_ hi164_4; have HC164_4 := a_ hl9548309_4; clear hi164_4 hl9548309_4; have HR164_5 := a_ hi164_5; have HC164_5 := a_ hl9548309_5; clear hi164_5 hl9548309_5; replace p9548309 := eq_true p9548309; replace q9548309 := eq_true q9548309
       refine start_ (n := 10) (S := fun w' => w'.cell? (ad9922068.add ((x5_1).toNat * 6)) = some (.int .i64 ((rd_T78 l0 x5_1).f0)) ∧ w'.cell? ⟨(ad9922068.add ((x5_1).toNat * 6)).block, (ad9922068.add ((x5_1).toNat * 6)).off + 1, none⟩ = some (.int .i64 ((rd_T78 l0 x5_1).f1)) ∧ w'.cell? ⟨(ad9922068.add ((x5_1).toNat * 6)).block, (ad9922068.add ((x5_1).toNat * 6)).off + 2, none⟩ = some (.string ((rd_T78 l0 x5_1).f2)) ∧ w'.cell? ⟨(ad9922068.add ((x5_1).toNat * 6)).block, (ad9922068.add ((x5_1).toNat * 6)).off + 3, none⟩ = some (.int .i64 ((rd_T78 l0 x5_1).f3)) ∧ w'.cell? ⟨(ad9922068.add ((x5_1).toNat * 6)).block, (ad9922068.add ((x5_1).toNat * 6)).off + 4, none⟩ = some (.slice A163_4 ((rd_T78 l0 x5_1).f4).length c163_4) ∧ w'.cell? ⟨(ad9922068.add ((x5_1).toNat * 6)).block, (ad9922068.add ((x5_1).toNat * 6)).off + 5, none⟩ = some (.slice A163_5 ((rd_T78 l0 x5_1).f5).length c163_5) ∧ w'.cell? (ad9548309.add ((x5_1).toNat * 6)) = some (.int .i64 ((rd_T78 l1 x5_1).f0)) ∧ w'.cell? ⟨(ad9548309.add ((x5_1).toNat * 6)).block, (ad9548309.add ((x5_1).toNat * 6)).off + 1, none⟩ = some (.int .i64 ((rd_T78 l1 x5_1).f1)) ∧ w'.cell? ⟨(ad9548309.add ((x5_1).toNat * 6)).block, (ad9548309.add ((x5_1).toNat * 6)).off + 2, none⟩ = some (.string ((rd_T78 l1 x5_1).f2)) ∧ w'.cell? ⟨(ad9548309.add ((x5_1).toNat * 6)).block, (ad9548309.add ((x5_1).toNat * 6)).off + 3, none⟩ = some (.int .i64 ((rd_T78 l1 x5_1).f3)) ∧ w'.cell? ⟨(ad9548309.add ((x5_1).toNat * 6)).block, (ad9548309.add ((x5_1).toNat * 6)).off + 4, none⟩ = some (.slice A164_4 ((rd_T78 l1 x5_1).f4).length c164_4) ∧ w'.cell? ⟨(ad9548309.add ((x5_1).toNat * 6)).block, (ad9548309.add ((x5_1).toNat * 6)).off + 5, none⟩ = some (.slice A164_5 ((rd_T78 l1 x5_1).f5).length c164_5)) (ds := []) #[F_,F_,F_,F_,F_,F_,F_,F_,F_,F_] y49_ rfl rfl ⟨(cT_ HB.out hw9922068_0 :), (cT_ HB.out hw9922068_1 :), (cT_ HB.out hw9922068_2 :), (cT_ HB.out hw9922068_3 :), (cT_ HB.out hw9922068_4 :), (cT_ HB.out hw9922068_5 :), (cT_ HB.out hw9548309_0 :), (cT_ HB.out hw9548309_1 :), (cT_ HB.out hw9548309_2 :), (cT_ HB.out hw9548309_3 :), (cT_ HB.out hw9548309_4 :), (cT_ HB.out hw9548309_5 :)⟩ (fun hHeld => ?_); refine with_tabW laws_eqStepS.tab6 laws_eqStepS.bits6 (fun HT_ HW_ => ?_); generalize wr.drew = w9497698 at HB HR163_4 HR163_5 HR164_4 HR164_5 hx9922068_0 hx9922068_1 hx9922068_2 hx9922068_3 hx9922068_4 hx9922068_5 hx9548309_0 hx9548309_1 hx9548309_2 hx9548309_3 hx9548309_4 hx9548309_5 hHeld ⊢; refine pure_ (i := 0) (N := some 17) #[T_,F_,F_,F_,F_,F_,F_,F_,F_,F_] rfl rfl z1_ (fun _ _ _ h => h) (Or.inl ⟨rfl, z2_⟩) z3_ ?_; refine pure_ (i := 1) (N := some 18) #[T_,T_,F_,F_,F_,F_,F_,F_,F_,F_] rfl rfl z1_ (fun _ _ _ h => h) (Or.inl ⟨rfl, z2_⟩) z3_ ?_; refine pure_ (i := 2) (N := some 19) #[T_,T_,T_,F_,F_,F_,F_,F_,F_,F_] rfl rfl z1_ (fun _ _ _ h => h) (Or.inl ⟨rfl, z2_⟩) z3_ ?_
       refine pure_ (i := 4) (N := some 21) #[T_,T_,T_,F_,T_,F_,F_,F_,F_,F_] rfl rfl z1_ (fun _ _ _ h => h) (Or.inl ⟨rfl, z2_⟩) z3_ ?_; refine pure_ (i := 5) (N := some 22) #[T_,T_,T_,F_,T_,T_,F_,F_,F_,F_] rfl rfl z1_ (fun _ _ _ h => h) (Or.inl ⟨rfl, z2_⟩) z3_ ?_; refine pure_ (i := 6) (N := some 23) #[T_,T_,T_,F_,T_,T_,T_,F_,F_,F_] rfl rfl z1_ (fun _ _ _ h => h) (Or.inl ⟨rfl, z2_⟩) z3_ ?_; refine take_ (i := 3) (N := some 20) #[T_,T_,T_,T_,T_,T_,T_,F_,F_,F_] rfl rfl z4_ (fun _ _ _ h => h) (Or.inl ⟨rfl, z40_⟩) hHeld z3_ ?_; refine take_ (i := 7) (N := some 24) #[T_,T_,T_,T_,T_,T_,T_,T_,F_,F_] rfl rfl z4_ (fun _ _ _ h => h) (Or.inl ⟨rfl, z40_⟩) hHeld z3_ ?_; refine one_ (i := 8) (N := some 25) #[T_,T_,T_,T_,T_,T_,T_,T_,T_,F_] rfl rfl (one_of HT_.out y49_) y37_ (fun K hK => ?_); refine goes_ Try.func61 y49_ rfl #[.agg #[.int .i64 ((rd_T78 l0 x5_1).f0), .int .i64 ((rd_T78 l0 x5_1).f1), .string ((rd_T78 l0 x5_1).f2), .int .i64 ((rd_T78 l0 x5_1).f3), .slice A163_4 ((rd_T78 l0 x5_1).f4).length c163_4, .slice A163_5 ((rd_T78 l0 x5_1).f5).length c163_5], .agg #[.int .i64 ((rd_T78 l1 x5_1).f0), .int .i64 ((rd_T78 l1 x5_1).f1), .string ((rd_T78 l1 x5_1).f2), .int .i64 ((rd_T78 l1 x5_1).f3), .slice A164_4 ((rd_T78 l1 x5_1).f4).length c164_4, .slice A164_5 ((rd_T78 l1 x5_1).f5).length c164_5]] (by rfl) rfl rfl y6_ ?_; with_reducible refine (laws_eqStep.calls k1 ((rd_T78 l0 x5_1).f0) ((rd_T78 l0 x5_1).f1) ((rd_T78 l0 x5_1).f2) ((rd_T78 l0 x5_1).f3) _ _ ((rd_T78 l0 x5_1).f4) _ _ ((rd_T78 l0 x5_1).f5) ((rd_T78 l1 x5_1).f0) ((rd_T78 l1 x5_1).f1) ((rd_T78 l1 x5_1).f2) ((rd_T78 l1 x5_1).f3) _ _ ((rd_T78 l1 x5_1).f4) _ _ ((rd_T78 l1 x5_1).f5) _ _ ?side1 ?side2 ?side3 ?side4 ?side5 ?side6 ?side7 ?side8 Ax4.out).mono ?_
       (case side1 => repeat (first | exact (Kd.C_below HR163_4.out HB.out) | (with_reducible refine Kd.C_alloc ?_ _) | (with_reducible refine Kd.C_drewN ?_ _) | (with_reducible refine Kd.C_drew ?_))); (case side2 => exact HC163_4.out); (case side3 => repeat (first | exact (Kd.C_below HR163_5.out HB.out) | (with_reducible refine Kd.C_alloc ?_ _) | (with_reducible refine Kd.C_drewN ?_ _) | (with_reducible refine Kd.C_drew ?_))); (case side4 => exact HC163_5.out); (case side5 => repeat (first | exact (Kd.C_below HR164_4.out HB.out) | (with_reducible refine Kd.C_alloc ?_ _) | (with_reducible refine Kd.C_drewN ?_ _) | (with_reducible refine Kd.C_drew ?_))); (case side6 => exact HC164_4.out); (case side7 => repeat (first | exact (Kd.C_below HR164_5.out HB.out) | (with_reducible refine Kd.C_alloc ?_ _) | (with_reducible refine Kd.C_drewN ?_ _) | (with_reducible refine Kd.C_drew ?_))); (case side8 => exact HC164_5.out); rintro e w9985327 ⟨rfl, hb⟩; refine ⟨_, rfl, ?_⟩; have n0_ := a_ (below_step y0_ hb); clear HB; have HB := n0_; clear n0_; (try clear hb); (try clear hb9800335); (try clear hk); (try clear hi); refine hK.out _ _ ⟨(cT_ HB.out hw9922068_0 :), (cT_ HB.out hw9922068_1 :), (cT_ HB.out hw9922068_2 :), (cT_ HB.out hw9922068_3 :), (cT_ HB.out hw9922068_4 :), (cT_ HB.out hw9922068_5 :), (cT_ HB.out hw9548309_0 :), (cT_ HB.out hw9548309_1 :), (cT_ HB.out hw9548309_2 :), (cT_ HB.out hw9548309_3 :), (cT_ HB.out hw9548309_4 :), (cT_ HB.out hw9548309_5 :)⟩ (fun hHeld => ?_); clear hK K; refine norm_ z39_ ?_; refine pure_ (i := 9) (N := some 26) #[T_,T_,T_,T_,T_,T_,T_,T_,T_,T_] rfl rfl z1_ (fun _ _ _ h => h) (Or.inl ⟨rfl, z2_⟩) z3_ ?_; refine done_ (done_of HT_.out y49_) ?_; try go_wp2)
     first
     | fail_if_success clear m1_1
     |(clear m1_1; go_roundg k1
       case measure => have := HK1.out; omega
       case rel => exact ⟨(wrap64 (x5_1 + 1)), y1_, H', ⟨y85_⟩, ⟨y0_⟩⟩)
     first
     | fail_if_success clear m1_2
     |(clear m1_2; go_ret
       exact ⟨y3_, y0_⟩)
     first
     | fail_if_success clear m1_3
     |(clear m1_3; go_wp2
       go_ret
       exact ⟨y3_, y0_⟩))
 ·rw [if_neg cx0] at H; have cx0b0 : ((l0.length : Int) == (l1.length : Int)) = false := beq_eq_false_iff_ne.mpr cx0; have cx0b1 : ((l0.length : Int) != (l1.length : Int)) = true := bne_iff_ne.mpr cx0; have cx0b2 : (l0.length == l1.length) = false := by first | simpa using cx0 | (simp at cx0 ⊢; omega)
  obtain rfl := Option.some.inj H; go_enter Try.func25, Try.ntmps25
  go_wp2
  go_ret
  exact ⟨y3_, y0_⟩

/-! ### spec_l4Deep: function 63 -/
def spec_l4Deep.l0 : Nat → List (S78) → Int → Int → Option (Int)
  | 0, _, _, _ => none
  | k + 1, x0, x1, x5 => if x1 ≥ 0 then (if x5 < 50 then (if 0 ≤ x1 then (if x1 < (x0.length : Int) then (spec_l4Deep.l0 k x0 ((rd_T78 x0 x1).f1) (wrap64 (x5 + 1))) else (none)) else (none)) else (some x5)) else (some x5)
def spec_l4Deep.f (k : Nat) (l0 : List (S78)) (a1 : Int) : Option (Int) := spec_l4Deep.l0 k l0 a1 0
theorem spec_l4Deep.mono_l : ∀ k, (∀ y0 y1 y2, LeO (spec_l4Deep.l0 k y0 y1 y2) (spec_l4Deep.l0 (k + 1) y0 y1 y2))
  | 0 => fun _ _ _ r h => by simp [spec_l4Deep.l0] at h
  | k + 1 => by
    have ih0 := spec_l4Deep.mono_l k
    · intro y0 y1 y2
      unfold spec_l4Deep.l0
      repeat' (with_reducible first | exact ih0 _ _ _ | exact LeO.refl _ | exact LeO.none _ | refine LeO.ite ?_ ?_ | refine LeO.bind ?_ (fun _ => ?_))
theorem spec_l4Deep.mono : ∀ a0 a1 k, LeO (spec_l4Deep.f k a0 a1) (spec_l4Deep.f (k + 1) a0 a1) := by
  intro a0 a1 k
  have ih0 := spec_l4Deep.mono_l k
  unfold spec_l4Deep.f
  repeat' (with_reducible first | exact ih0 _ _ _ | exact LeO.refl _ | exact LeO.none _ | refine LeO.ite ?_ ?_ | refine LeO.bind ?_ (fun _ => ?_))
set_option maxHeartbeats 8000000 in
set_option maxRecDepth 100000 in
theorem spec_l4Deep.calls (k : Nat) (A0 : Option Addr) (c0 : Nat) (l0 : List (S78)) (a1 : Int) (r : Int) (w : World) (hr0 : Kd.C k78 w A0 l0.length l0) (hc0 : l0.length ≤ c0) (h : spec_l4Deep.f k l0 a1 = some r) :
    Calls Try.prog 63 #[.slice A0 l0.length c0, .int .i64 a1] w fun e w' => e = .returned (.int .i64 r) ∧ Drawn0 w w' := by
 have HR0 := a_ hr0; have HC0 := a_ hc0; clear hr0 hc0; have H : (spec_l4Deep.l0 k l0 a1 0) = some r := h; clear h; have H' := a_ H; clear H; go_enter Try.func63, Try.ntmps63
 go_wp2
 go_loopg [1, 5] k (fun kq v1 v5 w' => ∃ (x1_1 : Int) (x5_1 : Int), v1 = .int .i64 x1_1 ∧ v5 = .int .i64 x5_1 ∧ Aside0 (spec_l4Deep.l0 kq l0 x1_1 x5_1 = some r) ∧ Aside0 (kq ≤ k) ∧ Drawn0 w w')
 case atStart => exact ⟨(a1), (0), y1_, y1_, H', ⟨Nat.le_refl _⟩, y8_⟩
 case round =>
  clear H'; obtain ⟨x1_1, x5_1, rfl, rfl, HA, HK1, ⟨m1, rfl⟩⟩ := hrel; cases gk with
  | zero => exact absurd HA.out (by simp [spec_l4Deep.l0])
  | succ k1 =>
   have H := HA.out; clear HA; simp only [spec_l4Deep.l0] at H; by_cases c3 : x1_1 ≥ 0
   ·rw [if_pos c3] at H; have c3b0 : decide (0 ≤ x1_1) = true := decide_eq_true c3; clear c3; by_cases c4 : x5_1 < 50
    ·rw [if_pos c4] at H; have c4b0 : decide (x5_1 < 50) = true := decide_eq_true c4; clear c4; by_cases c5 : 0 ≤ x1_1
     ·rw [if_pos c5] at H; have c5b0 : decide (0 ≤ x1_1) = true := decide_eq_true c5; clear c5; by_cases c6 : x1_1 < (l0.length : Int)
      ·rw [if_pos c6] at H; have c6b0 : decide (x1_1 < (l0.length : Int)) = true := decide_eq_true c6; clear c6; have H' := a_ H; clear H; have p166 : 0 ≤ (x1_1 : Int) := of_decide_eq_true y2_; have q166 : x1_1 < (l0.length : Int) := of_decide_eq_true y2_; obtain ⟨ad166, A166_4, c166_4, A166_5, c166_5, e166, hx166_0, hx166_1, hx166_2, hx166_3, hx166_4, hx166_5, hl166_4, hi166_4, hl166_5, hi166_5⟩ := at_T78 HR0.out x1_1 p166 q166; cases e166; have HR166_4 := a_ hi166_4; have HC166_4 := a_ hl166_4; clear hi166_4 hl166_4; have HR166_5 := a_ hi166_5; have HC166_5 := a_ hl166_5; clear hi166_5 hl166_5; replace p166 := eq_true p166; replace q166 := eq_true q166; go_wp2
       go_roundg k1
       case measure => have := HK1.out; omega
       case rel => exact ⟨((rd_T78 l0 x1_1).f1), (wrap64 (x5_1 + 1)), y1_, y1_, H', ⟨y85_⟩, y8_⟩
      ·rw [if_neg c6] at H; exact absurd H y92_
     ·rw [if_neg c5] at H; exact absurd H y92_
    ·rw [if_neg c4] at H; have c4b0 : decide (x5_1 < 50) = false := decide_eq_false c4; clear c4; obtain rfl := Option.some.inj H; go_wp2
     go_ret
     exact ⟨y1_, y8_⟩
   ·rw [if_neg c3] at H; have c3b0 : decide (0 ≤ x1_1) = false := decide_eq_false c3; clear c3; obtain rfl := Option.some.inj H; go_wp2
    go_ret
    exact ⟨y1_, y8_⟩

/-! ### spec_l1In: function 74 -/
def spec_l1In.f (a0 : Int) (a1 : Int) (a2 : Int) : Option (Bool) := if a0 ≥ a1 then (some (decide (a0 ≤ a2))) else (some false)
set_option maxHeartbeats 8000000 in
set_option maxRecDepth 100000 in
theorem spec_l1In.calls (a0 : Int) (a1 : Int) (a2 : Int) (r : Bool) (w : World) (h : spec_l1In.f a0 a1 a2 = some r) :
    Calls Try.prog 74 #[.int .i64 a0, .int .i64 a1, .int .i64 a2] w fun e w' => e = .returned (.bool r) ∧ Drawn0 w w' := by
 have H : (if a0 ≥ a1 then (some (decide (a0 ≤ a2))) else (some false)) = some r := h; clear h; by_cases c4 : a0 ≥ a1
 ·rw [if_pos c4] at H; have c4b0 : decide (a1 ≤ a0) = true := decide_eq_true c4; clear c4; obtain rfl := Option.some.inj H; go_enter Try.func74, Try.ntmps74
  go_wp2
  go_ret
  exact ⟨y1_, y8_⟩
 ·rw [if_neg c4] at H; have c4b0 : decide (a1 ≤ a0) = false := decide_eq_false c4; clear c4; obtain rfl := Option.some.inj H; go_enter Try.func74, Try.ntmps74
  go_wp2
  go_ret
  exact ⟨y1_, y8_⟩

/-! ### spec_l1Name: function 112 -/
def spec_l1Name.l0 : Nat → ByteArray → Int → Option (Int)
  | 0, _, _ => none
  | k + 1, x0, x3 => if x3 < (x0.size : Int) then (if 0 ≤ x3 then (if (bt x0 x3) < 97 then (some 5) else (if (bt x0 x3) > 122 then (some 5) else (spec_l1Name.l0 k x0 (wrap64 (x3 + 1))))) else (none)) else (if x0.toList = ([] : List UInt8) then (some 5) else (if (x0.size : Int) > 8 then (some 2) else (some 0)))
def spec_l1Name.f (k : Nat) (a0 : ByteArray) : Option (Int) := spec_l1Name.l0 k a0 0
theorem spec_l1Name.mono_l : ∀ k, (∀ y0 y1, LeO (spec_l1Name.l0 k y0 y1) (spec_l1Name.l0 (k + 1) y0 y1))
  | 0 => fun _ _ r h => by simp [spec_l1Name.l0] at h
  | k + 1 => by
    have ih0 := spec_l1Name.mono_l k
    · intro y0 y1
      unfold spec_l1Name.l0
      repeat' (with_reducible first | exact ih0 _ _ | exact LeO.refl _ | exact LeO.none _ | refine LeO.ite ?_ ?_ | refine LeO.bind ?_ (fun _ => ?_))
theorem spec_l1Name.mono : ∀ a0 k, LeO (spec_l1Name.f k a0) (spec_l1Name.f (k + 1) a0) := by
  intro a0 k
  have ih0 := spec_l1Name.mono_l k
  unfold spec_l1Name.f
  repeat' (with_reducible first | exact ih0 _ _ | exact LeO.refl _ | exact LeO.none _ | refine LeO.ite ?_ ?_ | refine LeO.bind ?_ (fun _ => ?_))
set_option maxHeartbeats 8000000 in
set_option maxRecDepth 100000 in
theorem spec_l1Name.calls (k : Nat) (a0 : ByteArray) (r : Int) (w : World) (h : spec_l1Name.f k a0 = some r) :
    Calls Try.prog 112 #[.string a0] w fun e w' => e = .returned (.int .i64 r) ∧ Drawn0 w w' := by
 have H : (spec_l1Name.l0 k a0 0) = some r := h; clear h; have H' := a_ H; clear H; go_enter Try.func112, Try.ntmps112
 go_wp2
 go_loopg [3] k (fun kq v3 w' => ∃ (x3_1 : Int), v3 = .int .i64 x3_1 ∧ Aside0 (spec_l1Name.l0 kq a0 x3_1 = some r) ∧ Aside0 (kq ≤ k) ∧ Drawn0 w w')
 case atStart => exact ⟨(0), y1_, H', ⟨Nat.le_refl _⟩, y8_⟩
 case round =>
  clear H'; obtain ⟨x3_1, rfl, HA, HK1, ⟨m1, rfl⟩⟩ := hrel; cases gk with
  | zero => exact absurd HA.out (by simp [spec_l1Name.l0])
  | succ k1 =>
   have H := HA.out; clear HA; simp only [spec_l1Name.l0] at H; by_cases cx0 : x3_1 < (a0.size : Int); rw [if_pos cx0] at H; have cx0b0 : decide (x3_1 < (a0.size : Int)) = true := decide_eq_true cx0; clear cx0; by_cases cx1 : 0 ≤ x3_1; rw [if_pos cx1] at H; have cx1b0 : decide (0 ≤ x3_1) = true := decide_eq_true cx1; clear cx1; by_cases cx2 : (bt a0 x3_1) < 97; rw [if_pos cx2] at H; have cx2b0 : decide ((bt a0 x3_1) < 97) = true := decide_eq_true cx2; clear cx2; obtain rfl := Option.some.inj H; have m0_0 := t_; have m0_1 := t_; rotate_left; rw [if_neg cx2] at H; have cx2b0 : decide ((bt a0 x3_1) < 97) = false := decide_eq_false cx2; clear cx2; by_cases cx3 : (bt a0 x3_1) > 122; rw [if_pos cx3] at H; have cx3b0 : decide (122 < (bt a0 x3_1)) = true := decide_eq_true cx3; clear cx3; obtain rfl := Option.some.inj H; have m0_0 := t_; have m0_2 := t_; have m0_3 := t_; rotate_left; rw [if_neg cx3] at H; have cx3b0 : decide (122 < (bt a0 x3_1)) = false := decide_eq_false cx3; clear cx3; have H' := a_ H; clear H; have m0_0 := t_; have m0_2 := t_; have m0_4 := t_; rotate_left
   ·rw [if_neg cx1] at H; exact absurd H y92_
   rw [if_neg cx0] at H; have cx0b0 : decide (x3_1 < (a0.size : Int)) = false := decide_eq_false cx0; clear cx0; by_cases cx1 : a0.toList = ([] : List UInt8); rw [if_pos cx1] at H; have cx1b0 : (a0.toList == ([] : List UInt8)) = true := beq_iff_eq.mpr cx1; have cx1b1 : (a0.toList != ([] : List UInt8)) = false := bne_eq_false_iff_eq.mpr cx1; clear cx1; obtain rfl := Option.some.inj H; have m0_5 := t_; rotate_left; rw [if_neg cx1] at H; have cx1b0 : (a0.toList == ([] : List UInt8)) = false := beq_eq_false_iff_ne.mpr cx1; have cx1b1 : (a0.toList != ([] : List UInt8)) = true := bne_iff_ne.mpr cx1; by_cases cx2 : (a0.size : Int) > 8; rw [if_pos cx2] at H; have cx2b0 : decide (8 < (a0.size : Int)) = true := decide_eq_true cx2; have cx2b1 : decide (8 < a0.size) = true := decide_eq_true y136_; clear cx2; obtain rfl := Option.some.inj H; have m0_6 := t_; rotate_left; rw [if_neg cx2] at H; have cx2b0 : decide (8 < (a0.size : Int)) = false := decide_eq_false cx2; have cx2b1 : decide (8 < a0.size) = false := decide_eq_false y136_; clear cx2; obtain rfl := Option.some.inj H; have m0_7 := t_; rotate_left
   all_goals (
    first
    | fail_if_success clear m0_0
    |(clear m0_0; have p9922068 : 0 ≤ (x3_1 : Int) := of_decide_eq_true y2_; have q9922068 : x3_1 < (a0.size : Int) := of_decide_eq_true y2_; have hx9922068 := bt_at a0 x3_1; replace p9922068 := eq_true p9922068; replace q9922068 := eq_true q9922068)
    first
    | fail_if_success clear m0_1
    |(clear m0_1; go_wp2
      go_ret
      exact ⟨y1_, y8_⟩)
    first
    | fail_if_success clear m0_2
    |(clear m0_2; have p9548309 : 0 ≤ (x3_1 : Int) := of_decide_eq_true y2_; have q9548309 : x3_1 < (a0.size : Int) := of_decide_eq_true y2_; have hx9548309 := bt_at a0 x3_1; replace p9548309 := eq_true p9548309; replace q9548309 := eq_true q9548309; go_wp2)
    first
    | fail_if_success clear m0_3
    |(clear m0_3; go_ret
      exact ⟨y1_, y8_⟩)
    first
    | fail_if_success clear m0_4
    |(clear m0_4; go_roundg k1
      case measure => have := HK1.out; omega
      case rel => exact ⟨(wrap64 (x3_1 + 1)), y1_, H', ⟨y85_⟩, y8_⟩)
    first
    | fail_if_success clear m0_5
    |(clear m0_5; go_wp2
      go_ret
      exact ⟨y1_, y8_⟩)
    first
    | fail_if_success clear m0_6
    |(clear m0_6; go_wp2
      go_ret
      exact ⟨y1_, y8_⟩)
    first
    | fail_if_success clear m0_7
    |(clear m0_7; go_wp2
      go_ret
      exact ⟨y1_, y8_⟩))

end Go.Proofs.Ytcpcenhpmcfmjaa.L
