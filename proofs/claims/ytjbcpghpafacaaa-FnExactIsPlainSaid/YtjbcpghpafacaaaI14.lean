-- Written by a program of this session's own (xp.py) for this seat.
import Derived.Test.YtjbcpghpafacaaaIZ
import Derived.Test.YtjbcpghpafacaaaI0
import Derived.Test.YtjbcpghpafacaaaI11
import Derived.Test.YtjbcpghpafacaaaI13
namespace Go.Proofs.Ytjbcpghpafacaaa.I
open Go.RowKit Go.Proofs.YtjbcpghpafacaaaW.PrintWords Go.Proofs.YtjbcpghpafacaaaW.PrintLast Go.Proofs.YtjbcpghpafacaaaW.PrintMore
attribute [local go_sem] Instr.field asAgg
attribute [local go_sem] max2_int min2_int max_two min_two max_three min_three max_four min_four   -- for this text's walks alone
set_option linter.unusedVariables false
set_option linter.unusedSimpArgs false

/-! ### impl_nodeFault: function 63 -/
mutual
def impl_nodeFault.j0 : Nat → Int → Bool → Int → Int → Int → Int → Option (Int)
  | 0, _, _, _, _, _, _ => none
  | k + 1, x1, x6, x354000, x354001, x354002, x354003 => if x6 = true then (if x354000 = 2 then (impl_nodeFault.j1 k 3 x6 x354000 x354001 x354002 x354003) else (impl_nodeFault.j1 k 9999 x6 x354000 x354001 x354002 x354003)) else (if x354000 = 10 then (if x354001 = 0 then ((impl_codeIf.f (x354003 != 0) 1).bind fun t368 => ((impl_inRange.f x354002 0 (wrap64 (x1 - 1))).bind fun t369 => ((impl_codeIf.f (!t369) 3).bind fun t370 => ((impl_firstCode.f k (([t368, t370] : List Int))).bind fun t374 => (some t374))))) else ((impl_codeIf.f true 1).bind fun t375 => ((impl_inRange.f x354002 0 (wrap64 (x1 - 1))).bind fun t376 => ((impl_codeIf.f (!t376) 3).bind fun t377 => ((impl_firstCode.f k (([t375, t377] : List Int))).bind fun t381 => (some t381)))))) else ((impl_isTwo.f x354000).bind fun t382 => (if t382 = true then ((impl_codeIf.f (x354001 != 0) 1).bind fun t383 => ((impl_inRange.f x354002 0 (wrap64 (x1 - 1))).bind fun t384 => (if t384 = true then ((impl_inRange.f x354003 0 (wrap64 (x1 - 1))).bind fun t385 => ((impl_codeIf.f (!t385) 3).bind fun t386 => ((impl_firstCode.f k (([t383, t386] : List Int))).bind fun t390 => (some t390)))) else ((impl_codeIf.f true 3).bind fun t391 => ((impl_firstCode.f k (([t383, t391] : List Int))).bind fun t395 => (some t395)))))) else (some 1))))
def impl_nodeFault.j1 : Nat → Int → Bool → Int → Int → Int → Int → Option (Int)
  | 0, _, _, _, _, _, _ => none
  | k + 1, x5, x6, x354000, x354001, x354002, x354003 => if x354002 = 0 then ((impl_codeIf.f (x354003 != 0) 1).bind fun t354 => ((impl_inRange.f x354001 0 x5).bind fun t355 => ((impl_codeIf.f (!t355) 3).bind fun t356 => ((impl_firstCode.f k (([t354, t356] : List Int))).bind fun t360 => (some t360))))) else ((impl_codeIf.f true 1).bind fun t361 => ((impl_inRange.f x354001 0 x5).bind fun t362 => ((impl_codeIf.f (!t362) 3).bind fun t363 => ((impl_firstCode.f k (([t361, t363] : List Int))).bind fun t367 => (some t367)))))
end
def impl_nodeFault.f (k : Nat) (a0_0 : Int) (a0_1 : Int) (a0_2 : Int) (a0_3 : Int) (a1 : Int) : Option (Int) := if a0_0 = 1 then (impl_nodeFault.j0 k a1 true a0_0 a0_1 a0_2 a0_3) else (impl_nodeFault.j0 k a1 (a0_0 == 2) a0_0 a0_1 a0_2 a0_3)
theorem impl_nodeFault.mono_l : ∀ k, (∀ y0 y1 y2 y3 y4 y5, LeO (impl_nodeFault.j0 k y0 y1 y2 y3 y4 y5) (impl_nodeFault.j0 (k + 1) y0 y1 y2 y3 y4 y5)) ∧ (∀ y0 y1 y2 y3 y4 y5, LeO (impl_nodeFault.j1 k y0 y1 y2 y3 y4 y5) (impl_nodeFault.j1 (k + 1) y0 y1 y2 y3 y4 y5))
  | 0 => ⟨fun _ _ _ _ _ _ r h => by simp [impl_nodeFault.j0] at h, fun _ _ _ _ _ _ r h => by simp [impl_nodeFault.j1] at h⟩
  | k + 1 => by
    obtain ⟨ih0, ih1⟩ := impl_nodeFault.mono_l k
    refine ⟨?_, ?_⟩
    · intro y0 y1 y2 y3 y4 y5
      unfold impl_nodeFault.j0
      repeat' (with_reducible first | exact ih0 _ _ _ _ _ _ | exact ih1 _ _ _ _ _ _ | exact impl_firstCode.mono _ _ | exact LeO.refl _ | exact LeO.none _ | refine LeO.ite ?_ ?_ | refine LeO.bind ?_ (fun _ => ?_))
    · intro y0 y1 y2 y3 y4 y5
      unfold impl_nodeFault.j1
      repeat' (with_reducible first | exact ih0 _ _ _ _ _ _ | exact ih1 _ _ _ _ _ _ | exact impl_firstCode.mono _ _ | exact LeO.refl _ | exact LeO.none _ | refine LeO.ite ?_ ?_ | refine LeO.bind ?_ (fun _ => ?_))
theorem impl_nodeFault.mono : ∀ a0 a1 a2 a3 a4 k, LeO (impl_nodeFault.f k a0 a1 a2 a3 a4) (impl_nodeFault.f (k + 1) a0 a1 a2 a3 a4) := by
  intro a0 a1 a2 a3 a4 k
  obtain ⟨ih0, ih1⟩ := impl_nodeFault.mono_l k
  unfold impl_nodeFault.f
  repeat' (with_reducible first | exact ih0 _ _ _ _ _ _ | exact ih1 _ _ _ _ _ _ | exact impl_firstCode.mono _ _ | exact LeO.refl _ | exact LeO.none _ | refine LeO.ite ?_ ?_ | refine LeO.bind ?_ (fun _ => ?_))
def impl_nodeFault.T5 : Bool × List (List Nat × List Nat) := (true, [([], []), ([0], [0]), ([1], [1]), ([2], [2]), ([3], [3]), ([4, 3], [3, 4]), ([5, 3], [3, 5]), ([3, 6], [3, 6]), ([7, 3], [7]), ([], []), ([9], [9]), ([], []), ([10, 11, 8], [10, 11]), ([12], [12]), ([13, 12], [13]), ([8, 14], [8, 14]), ([15, 14], [15]), ([16, 16, 0, 1, 2, 3, 4, 5, 6, 7, 8, 9, 10, 11, 12, 13, 14, 15, 16], [16])])
def impl_nodeFault.B5 : List Nat := [0, 1, 3, 7, 15, 31, 63, 127, 255, 0, 512, 0, 4095, 8191, 16383, 32767, 65535, 131071]
theorem impl_nodeFault.tab5 : rtab .any (opsOf Try.f63 5) = impl_nodeFault.T5 := by kernel_rfl
theorem impl_nodeFault.bits5 : waitsOk impl_nodeFault.T5.2 impl_nodeFault.B5 = true := by kernel_rfl
def impl_nodeFault.T7 : Bool × List (List Nat × List Nat) := (true, [([], []), ([0], [0]), ([1], [1]), ([2], [2]), ([3], [3]), ([4, 3], [3, 4]), ([5, 3], [3, 5]), ([3, 6], [3, 6]), ([7, 3], [7]), ([], []), ([9], [9]), ([], []), ([11], [11]), ([10, 12, 8], [10, 12]), ([13], [13]), ([14, 13], [14]), ([8, 15], [8, 15]), ([16, 15], [16]), ([17, 17, 0, 1, 2, 3, 4, 5, 6, 7, 8, 9, 10, 11, 12, 13, 14, 15, 16, 17], [17])])
def impl_nodeFault.B7 : List Nat := [0, 1, 3, 7, 15, 31, 63, 127, 255, 0, 512, 0, 2048, 8191, 16383, 32767, 65535, 131071, 262143]
theorem impl_nodeFault.tab7 : rtab .any (opsOf Try.f63 7) = impl_nodeFault.T7 := by kernel_rfl
theorem impl_nodeFault.bits7 : waitsOk impl_nodeFault.T7.2 impl_nodeFault.B7 = true := by kernel_rfl
def impl_nodeFault.T9 : Bool × List (List Nat × List Nat) := (true, [([], []), ([0], [0]), ([1], [1]), ([2], [2]), ([], []), ([4], [4]), ([], []), ([6], [6]), ([5, 7, 3], [5, 7]), ([8], [8]), ([9, 8], [9]), ([10], [10]), ([11, 10], [10, 11]), ([10], [10]), ([13, 10], [10, 13]), ([12, 14, 10, 10], [10, 12, 14]), ([15, 10], [10, 15]), ([10, 16], [10, 16]), ([17, 15], [17]), ([3, 18], [3, 18]), ([19, 18], [19]), ([20, 20, 0, 1, 2, 3, 4, 5, 6, 7, 8, 9, 10, 11, 12, 13, 14, 15, 16, 17, 18, 19, 20], [20])])
def impl_nodeFault.B9 : List Nat := [0, 1, 3, 7, 0, 16, 0, 64, 255, 511, 1023, 2047, 4095, 2047, 10239, 32767, 65535, 131071, 262143, 524287, 1048575, 2097151]
theorem impl_nodeFault.tab9 : rtab .any (opsOf Try.f63 9) = impl_nodeFault.T9 := by kernel_rfl
theorem impl_nodeFault.bits9 : waitsOk impl_nodeFault.T9.2 impl_nodeFault.B9 = true := by kernel_rfl
set_option maxHeartbeats 8000000 in
set_option maxRecDepth 100000 in
theorem impl_nodeFault.calls (k : Nat) (a0_0 : Int) (a0_1 : Int) (a0_2 : Int) (a0_3 : Int) (a1 : Int) (r : Int) (w : World) (h : impl_nodeFault.f k a0_0 a0_1 a0_2 a0_3 a1 = some r) :
    Calls Try.prog 63 #[.agg #[.int .i64 a0_0, .int .i64 a0_1, .int .i64 a0_2, .int .i64 a0_3], .int .i64 a1] w fun e w' => e = .returned (.int .i64 r) ∧ Below w.heap.size w w' := by
 have hu74 := Try.underlying74; have HB := a_ (Below.refl w.heap.size w); have H : (if a0_0 = 1 then (impl_nodeFault.j0 k a1 true a0_0 a0_1 a0_2 a0_3) else (impl_nodeFault.j0 k a1 (a0_0 == 2) a0_0 a0_1 a0_2 a0_3)) = some r := h; clear h; have HC3 := a_ H; clear H; go_enter Try.func63, Try.ntmps63
 go_upto_region 1 with (first | ((with_reducible refine gate_dst (N := 2) rfl ?_); refine box_event zr_ (N := 2) zr_ (cs := #[.int .i64 a0_0, .int .i64 a0_1, .int .i64 a0_2, .int .i64 a0_3]) (t := 74) zs_ ?_; intro gb353 hg w4 hbox hb; have n0_ := a_ (below_step y0_ hb); have n1_ := a_ (hbox); have n2_ := a_ ((by rw [hg]; exact (below_size y0_) : w.heap.size ≤ gb353)); have n3_ := a_ ((by rw [hg]; exact (below_size y0_) : w.heap.size ≤ gb353)); clear HB; have HB := n0_; have BK353 := n1_; have GW353 := n2_; have GE353 := n3_; clear n0_ n1_ n2_ n3_; clear hb hbox hg))
 (try simp only [Act.put, List.setIfInBounds_toArray, List.set_cons_zero, List.set_cons_succ]); go_cut [6] (fun v6 wc => ∃ (kq : Nat) (x6_2 : Bool), v6 = .bool x6_2 ∧ Aside0 (impl_nodeFault.j0 kq a1 x6_2 a0_0 a0_1 a0_2 a0_3 = some r) ∧ Aside0 (kq ≤ k) ∧ Aside0 (wc.heap[gb353]? = some (.cells #[.int .i64 a0_0, .int .i64 a0_1, .int .i64 a0_2, .int .i64 a0_3] 74 (0, 0))) ∧ Aside0 (Below w.heap.size w wc))
 case first =>
  have H := HC3.out; clear HC3; by_cases cx0 : a0_0 = 1
  ·rw [if_pos cx0] at H; have cx0b0 : (a0_0 == 1) = true := beq_iff_eq.mpr cx0; have cx0b1 : (a0_0 != 1) = false := bne_eq_false_iff_eq.mpr cx0; clear cx0; (first | rw [cx0b0] | (simp only [i64_w, i32_w]; rw [cx0b0]) | skip); have H' := a_ H; clear H; have hcz6_0 : w4.cell? ⟨gb353, 0, none⟩ = some (.int .i64 a0_0) := (blk_cell BK353.out 0).trans rfl; have hcz6_1 : w4.cell? ⟨gb353, 1, none⟩ = some (.int .i64 a0_1) := (blk_cell BK353.out 1).trans rfl; have hcz6_2 : w4.cell? ⟨gb353, 2, none⟩ = some (.int .i64 a0_2) := (blk_cell BK353.out 2).trans rfl; have hcz6_3 : w4.cell? ⟨gb353, 3, none⟩ = some (.int .i64 a0_3) := (blk_cell BK353.out 3).trans rfl; have hfz6_0 := blk_frozen BK353.out 0; have hfz6_1 := blk_frozen BK353.out 1; have hfz6_2 := blk_frozen BK353.out 2; have hfz6_3 := blk_frozen BK353.out 3; go_wp2
   go_meet
   case rel => exact ⟨_, (true), y1_, H', ⟨y45_⟩, ⟨y50_⟩, ⟨y29_⟩⟩
  ·rw [if_neg cx0] at H; have cx0b0 : (a0_0 == 1) = false := beq_eq_false_iff_ne.mpr cx0; have cx0b1 : (a0_0 != 1) = true := bne_iff_ne.mpr cx0; (first | rw [cx0b0] | (simp only [i64_w, i32_w]; rw [cx0b0]) | skip); have H' := a_ H; clear H; have hcz7_0 : w4.cell? ⟨gb353, 0, none⟩ = some (.int .i64 a0_0) := (blk_cell BK353.out 0).trans rfl; have hcz7_1 : w4.cell? ⟨gb353, 1, none⟩ = some (.int .i64 a0_1) := (blk_cell BK353.out 1).trans rfl; have hcz7_2 : w4.cell? ⟨gb353, 2, none⟩ = some (.int .i64 a0_2) := (blk_cell BK353.out 2).trans rfl; have hcz7_3 : w4.cell? ⟨gb353, 3, none⟩ = some (.int .i64 a0_3) := (blk_cell BK353.out 3).trans rfl; have hfz7_0 := blk_frozen BK353.out 0; have hfz7_1 := blk_frozen BK353.out 1; have hfz7_2 := blk_frozen BK353.out 2; have hfz7_3 := blk_frozen BK353.out 3; go_wp2
   go_meet
   case rel => exact ⟨_, ((a0_0 == 2)), y1_, H', ⟨y45_⟩, ⟨y50_⟩, ⟨y29_⟩⟩
 case rest =>
  clear HC3; obtain ⟨kq, x6_2, rfl, HA, HJ2, BK353, HB⟩ := hcut; cases kq with
  | zero => exact absurd HA.out (by simp [impl_nodeFault.j0])
  | succ kj2 =>
   have H := HA.out; clear HA; simp only [impl_nodeFault.j0] at H; by_cases cx0 : x6_2 = true; subst cx0; rw [if_pos rfl] at H; have HC9 := a_ H; clear H; have hcz10_0 : wc.cell? ⟨gb353, 0, none⟩ = some (.int .i64 a0_0) := (blk_cell BK353.out 0).trans rfl; have hcz10_1 : wc.cell? ⟨gb353, 1, none⟩ = some (.int .i64 a0_1) := (blk_cell BK353.out 1).trans rfl; have hcz10_2 : wc.cell? ⟨gb353, 2, none⟩ = some (.int .i64 a0_2) := (blk_cell BK353.out 2).trans rfl; have hcz10_3 : wc.cell? ⟨gb353, 3, none⟩ = some (.int .i64 a0_3) := (blk_cell BK353.out 3).trans rfl; have hfz10_0 := blk_frozen BK353.out 0; have hfz10_1 := blk_frozen BK353.out 1; have hfz10_2 := blk_frozen BK353.out 2; have hfz10_3 := blk_frozen BK353.out 3; have m0_0 := t_; rotate_left; replace cx0 := Bool.eq_false_iff.mpr cx0; subst cx0; rw [if_neg (show ¬ (false = true) by decide)] at H; by_cases cx1 : a0_0 = 10; rw [if_pos cx1] at H; have cx1b0 : (a0_0 == 10) = true := beq_iff_eq.mpr cx1; have cx1b1 : (a0_0 != 10) = false := bne_eq_false_iff_eq.mpr cx1; clear cx1; by_cases cx2 : a0_1 = 0; rw [if_pos cx2] at H; have cx2b0 : (a0_1 == 0) = true := beq_iff_eq.mpr cx2; have cx2b1 : (a0_1 != 0) = false := bne_eq_false_iff_eq.mpr cx2; clear cx2; replace H := Option.bind_eq_some_iff.mp H; obtain ⟨tx3, Ay3, H⟩ := H; have Ax3 := a_ Ay3; clear Ay3; replace H := Option.bind_eq_some_iff.mp H; obtain ⟨tx4, Ay4, H⟩ := H; have Ax4 := a_ Ay4; clear Ay4; replace H := Option.bind_eq_some_iff.mp H; obtain ⟨tx5, Ay5, H⟩ := H; have Ax5 := a_ Ay5; clear Ay5; obtain ⟨y371, hy_⟩ : ∃ y_ : List Int, y_ = (([tx3, tx5] : List Int)) := ⟨_, rfl⟩; replace H : ((impl_firstCode.f kj2 y371).bind fun t374 => (some t374)) = some r := z0_; have Ny371 := a_ hy_; clear hy_; replace H := Option.bind_eq_some_iff.mp H; obtain ⟨tx6, Ay6, H⟩ := H; have Ax6 := a_ Ay6; clear Ay6; obtain rfl := Option.some.inj H; have hcz35_0 : wc.cell? ⟨gb353, 0, none⟩ = some (.int .i64 a0_0) := (blk_cell BK353.out 0).trans rfl; have hcz35_1 : wc.cell? ⟨gb353, 1, none⟩ = some (.int .i64 a0_1) := (blk_cell BK353.out 1).trans rfl; have hcz35_2 : wc.cell? ⟨gb353, 2, none⟩ = some (.int .i64 a0_2) := (blk_cell BK353.out 2).trans rfl; have hcz35_3 : wc.cell? ⟨gb353, 3, none⟩ = some (.int .i64 a0_3) := (blk_cell BK353.out 3).trans rfl; have hfz35_0 := blk_frozen BK353.out 0; have hfz35_1 := blk_frozen BK353.out 1; have hfz35_2 := blk_frozen BK353.out 2; have hfz35_3 := blk_frozen BK353.out 3; have m0_1 := t_; have m0_2 := t_; have m0_4 := t_; have m0_5 := t_; have m0_7 := t_; have m0_9 := t_; have m0_10 := t_; have m0_11 := t_; have m0_22 := t_; have m0_23 := t_; have m0_24 := t_; have m0_29 := t_; have m0_30 := t_; have m0_32 := t_; have m0_34 := t_; rotate_left; rw [if_neg cx2] at H; have cx2b0 : (a0_1 == 0) = false := beq_eq_false_iff_ne.mpr cx2
   have cx2b1 : (a0_1 != 0) = true := bne_iff_ne.mpr cx2; replace H := Option.bind_eq_some_iff.mp H; obtain ⟨tx3, Ay3, H⟩ := H; have Ax3 := a_ Ay3; clear Ay3; replace H := Option.bind_eq_some_iff.mp H; obtain ⟨tx4, Ay4, H⟩ := H; have Ax4 := a_ Ay4; clear Ay4; replace H := Option.bind_eq_some_iff.mp H; obtain ⟨tx5, Ay5, H⟩ := H; have Ax5 := a_ Ay5; clear Ay5; obtain ⟨y378, hy_⟩ : ∃ y_ : List Int, y_ = (([tx3, tx5] : List Int)) := ⟨_, rfl⟩; replace H : ((impl_firstCode.f kj2 y378).bind fun t381 => (some t381)) = some r := z0_; have Ny378 := a_ hy_; clear hy_; replace H := Option.bind_eq_some_iff.mp H; obtain ⟨tx6, Ay6, H⟩ := H; have Ax6 := a_ Ay6; clear Ay6; obtain rfl := Option.some.inj H; have hcz44_0 : wc.cell? ⟨gb353, 0, none⟩ = some (.int .i64 a0_0) := (blk_cell BK353.out 0).trans rfl; have hcz44_1 : wc.cell? ⟨gb353, 1, none⟩ = some (.int .i64 a0_1) := (blk_cell BK353.out 1).trans rfl; have hcz44_2 : wc.cell? ⟨gb353, 2, none⟩ = some (.int .i64 a0_2) := (blk_cell BK353.out 2).trans rfl; have hcz44_3 : wc.cell? ⟨gb353, 3, none⟩ = some (.int .i64 a0_3) := (blk_cell BK353.out 3).trans rfl; have hfz44_0 := blk_frozen BK353.out 0; have hfz44_1 := blk_frozen BK353.out 1; have hfz44_2 := blk_frozen BK353.out 2; have hfz44_3 := blk_frozen BK353.out 3; have m0_1 := t_; have m0_3 := t_; have m0_4 := t_; have m0_6 := t_; have m0_7 := t_; have m0_9 := t_; have m0_10 := t_; have m0_12 := t_; have m0_22 := t_; have m0_23 := t_; have m0_25 := t_; have m0_29 := t_; have m0_30 := t_; have m0_32 := t_; have m0_34 := t_; rotate_left; rw [if_neg cx1] at H; have cx1b0 : (a0_0 == 10) = false := beq_eq_false_iff_ne.mpr cx1; have cx1b1 : (a0_0 != 10) = true := bne_iff_ne.mpr cx1; replace H := Option.bind_eq_some_iff.mp H; obtain ⟨tx2, Ay2, H⟩ := H; have Ax2 := a_ Ay2; clear Ay2; by_cases cx3 : tx2 = true; subst cx3; rw [if_pos rfl] at H; replace H := Option.bind_eq_some_iff.mp H; obtain ⟨tx4, Ay4, H⟩ := H; have Ax4 := a_ Ay4; clear Ay4; replace H := Option.bind_eq_some_iff.mp H; obtain ⟨tx5, Ay5, H⟩ := H; have Ax5 := a_ Ay5; clear Ay5; by_cases cx6 : tx5 = true; subst cx6; rw [if_pos rfl] at H; replace H := Option.bind_eq_some_iff.mp H; obtain ⟨tx7, Ay7, H⟩ := H; have Ax7 := a_ Ay7; clear Ay7; replace H := Option.bind_eq_some_iff.mp H; obtain ⟨tx8, Ay8, H⟩ := H; have Ax8 := a_ Ay8; clear Ay8; obtain ⟨y387, hy_⟩ : ∃ y_ : List Int, y_ = (([tx4, tx8] : List Int)) := ⟨_, rfl⟩; replace H : ((impl_firstCode.f kj2 y387).bind fun t390 => (some t390)) = some r := z0_; have Ny387 := a_ hy_; clear hy_; replace H := Option.bind_eq_some_iff.mp H; obtain ⟨tx9, Ay9, H⟩ := H; have Ax9 := a_ Ay9; clear Ay9; obtain rfl := Option.some.inj H; have hcz57_0 : wc.cell? ⟨gb353, 0, none⟩ = some (.int .i64 a0_0) := (blk_cell BK353.out 0).trans rfl
   have hcz57_1 : wc.cell? ⟨gb353, 1, none⟩ = some (.int .i64 a0_1) := (blk_cell BK353.out 1).trans rfl; have hcz57_2 : wc.cell? ⟨gb353, 2, none⟩ = some (.int .i64 a0_2) := (blk_cell BK353.out 2).trans rfl; have hcz57_3 : wc.cell? ⟨gb353, 3, none⟩ = some (.int .i64 a0_3) := (blk_cell BK353.out 3).trans rfl; have hfz57_0 := blk_frozen BK353.out 0; have hfz57_1 := blk_frozen BK353.out 1; have hfz57_2 := blk_frozen BK353.out 2; have hfz57_3 := blk_frozen BK353.out 3; have m0_8 := t_; have m0_9 := t_; have m0_13 := t_; have m0_14 := t_; have m0_16 := t_; have m0_17 := t_; have m0_19 := t_; have m0_20 := t_; have m0_22 := t_; have m0_26 := t_; have m0_27 := t_; have m0_29 := t_; have m0_31 := t_; have m0_32 := t_; have m0_34 := t_; rotate_left; replace cx6 := Bool.eq_false_iff.mpr cx6; subst cx6; rw [if_neg (show ¬ (false = true) by decide)] at H; replace H := Option.bind_eq_some_iff.mp H; obtain ⟨tx7, Ay7, H⟩ := H; have Ax7 := a_ Ay7; clear Ay7; obtain ⟨y392, hy_⟩ : ∃ y_ : List Int, y_ = (([tx4, tx7] : List Int)) := ⟨_, rfl⟩; replace H : ((impl_firstCode.f kj2 y392).bind fun t395 => (some t395)) = some r := z0_; have Ny392 := a_ hy_; clear hy_; replace H := Option.bind_eq_some_iff.mp H; obtain ⟨tx8, Ay8, H⟩ := H; have Ax8 := a_ Ay8; clear Ay8; obtain rfl := Option.some.inj H; have hcz64_0 : wc.cell? ⟨gb353, 0, none⟩ = some (.int .i64 a0_0) := (blk_cell BK353.out 0).trans rfl; have hcz64_1 : wc.cell? ⟨gb353, 1, none⟩ = some (.int .i64 a0_1) := (blk_cell BK353.out 1).trans rfl; have hcz64_2 : wc.cell? ⟨gb353, 2, none⟩ = some (.int .i64 a0_2) := (blk_cell BK353.out 2).trans rfl; have hcz64_3 : wc.cell? ⟨gb353, 3, none⟩ = some (.int .i64 a0_3) := (blk_cell BK353.out 3).trans rfl; have hfz64_0 := blk_frozen BK353.out 0; have hfz64_1 := blk_frozen BK353.out 1; have hfz64_2 := blk_frozen BK353.out 2; have hfz64_3 := blk_frozen BK353.out 3; have m0_8 := t_; have m0_9 := t_; have m0_13 := t_; have m0_15 := t_; have m0_16 := t_; have m0_18 := t_; have m0_19 := t_; have m0_21 := t_; have m0_22 := t_; have m0_26 := t_; have m0_28 := t_; have m0_29 := t_; have m0_31 := t_; have m0_32 := t_; have m0_34 := t_; rotate_left; replace cx3 := Bool.eq_false_iff.mpr cx3; subst cx3; rw [if_neg (show ¬ (false = true) by decide)] at H; obtain rfl := Option.some.inj H; have hcz69_0 : wc.cell? ⟨gb353, 0, none⟩ = some (.int .i64 a0_0) := (blk_cell BK353.out 0).trans rfl; have hcz69_1 : wc.cell? ⟨gb353, 1, none⟩ = some (.int .i64 a0_1) := (blk_cell BK353.out 1).trans rfl; have hcz69_2 : wc.cell? ⟨gb353, 2, none⟩ = some (.int .i64 a0_2) := (blk_cell BK353.out 2).trans rfl; have hcz69_3 : wc.cell? ⟨gb353, 3, none⟩ = some (.int .i64 a0_3) := (blk_cell BK353.out 3).trans rfl
   have hfz69_0 := blk_frozen BK353.out 0; have hfz69_1 := blk_frozen BK353.out 1; have hfz69_2 := blk_frozen BK353.out 2; have hfz69_3 := blk_frozen BK353.out 3; have m0_33 := t_; have m0_34 := t_; rotate_left
   all_goals (
    first
    | fail_if_success clear m0_0
    |(clear m0_0; go_upto_if 17 with (fail)
      go_cut [5, 6] (fun v9015937 v6 wc => ∃ (kq : Nat) (x5_8 : Int) (x6_8 : Bool), v9015937 = .int .i64 x5_8 ∧ v6 = .bool x6_8 ∧ Aside0 (impl_nodeFault.j1 kq x5_8 x6_8 a0_0 a0_1 a0_2 a0_3 = some r) ∧ Aside0 (kq ≤ kj2) ∧ Aside0 (wc.heap[gb353]? = some (.cells #[.int .i64 a0_0, .int .i64 a0_1, .int .i64 a0_2, .int .i64 a0_3] 74 (0, 0))) ∧ Aside0 (Below w.heap.size w wc))
      case first =>
       have H := HC9.out; clear HC9; by_cases cx1 : a0_0 = 2
       ·rw [if_pos cx1] at H; have cx1b0 : (a0_0 == 2) = true := beq_iff_eq.mpr cx1; have cx1b1 : (a0_0 != 2) = false := bne_eq_false_iff_eq.mpr cx1; clear cx1; (first | rw [cx1b0] | (simp only [i64_w, i32_w]; rw [cx1b0]) | skip); have H' := a_ H; clear H; go_wp2
        go_meet
        case rel => exact ⟨_, (3), (true), y1_, y1_, H', ⟨by have := HJ2.out; first | omega | exact Nat.le_refl _⟩, ⟨y50_⟩, ⟨y29_⟩⟩
       ·rw [if_neg cx1] at H; have cx1b0 : (a0_0 == 2) = false := beq_eq_false_iff_ne.mpr cx1; have cx1b1 : (a0_0 != 2) = true := bne_iff_ne.mpr cx1; (first | rw [cx1b0] | (simp only [i64_w, i32_w]; rw [cx1b0]) | skip); have H' := a_ H; clear H; go_wp2
        go_meet
        case rel => exact ⟨_, (9999), (true), y1_, y1_, H', ⟨by have := HJ2.out; first | omega | exact Nat.le_refl _⟩, ⟨y50_⟩, ⟨y29_⟩⟩
      case rest =>
       clear HC9; (try clear cx0); (try clear hcz10_0); (try clear hcz10_1); (try clear hcz10_2); (try clear hcz10_3); (try clear hfz10_0); (try clear hfz10_1); (try clear hfz10_2); (try clear hfz10_3); obtain ⟨kq, x5_8, x6_8, rfl, rfl, HA, HJ8, BK353, HB⟩ := hcut; cases kq with
       | zero => exact absurd HA.out (by simp [impl_nodeFault.j1])
       | succ kj8 =>
        have H := HA.out; clear HA; simp only [impl_nodeFault.j1] at H; by_cases cx1 : a0_2 = 0; rw [if_pos cx1] at H; have cx1b0 : (a0_2 == 0) = true := beq_iff_eq.mpr cx1; have cx1b1 : (a0_2 != 0) = false := bne_eq_false_iff_eq.mpr cx1; clear cx1; replace H := Option.bind_eq_some_iff.mp H; obtain ⟨tx2, Ay2, H⟩ := H; have Ax2 := a_ Ay2; clear Ay2; replace H := Option.bind_eq_some_iff.mp H; obtain ⟨tx3, Ay3, H⟩ := H; have Ax3 := a_ Ay3; clear Ay3; replace H := Option.bind_eq_some_iff.mp H; obtain ⟨tx4, Ay4, H⟩ := H; have Ax4 := a_ Ay4; clear Ay4; obtain ⟨y9595925, hy_⟩ : ∃ y_ : List Int, y_ = (([tx2, tx4] : List Int)) := ⟨_, rfl⟩; replace H : ((impl_firstCode.f kj8 y9595925).bind fun t360 => (some t360)) = some r := z0_; have Ny9595925 := a_ hy_; clear hy_; replace H := Option.bind_eq_some_iff.mp H; obtain ⟨tx5, Ay5, H⟩ := H; have Ax5 := a_ Ay5; clear Ay5; obtain rfl := Option.some.inj H; have m1_0 := t_; have m1_2 := t_; have m1_4 := t_; have m1_6 := t_; rotate_left; rw [if_neg cx1] at H; have cx1b0 : (a0_2 == 0) = false := beq_eq_false_iff_ne.mpr cx1; have cx1b1 : (a0_2 != 0) = true := bne_iff_ne.mpr cx1; replace H := Option.bind_eq_some_iff.mp H; obtain ⟨tx2, Ay2, H⟩ := H; have Ax2 := a_ Ay2; clear Ay2; replace H := Option.bind_eq_some_iff.mp H; obtain ⟨tx3, Ay3, H⟩ := H; have Ax3 := a_ Ay3; clear Ay3; replace H := Option.bind_eq_some_iff.mp H; obtain ⟨tx4, Ay4, H⟩ := H; have Ax4 := a_ Ay4; clear Ay4; obtain ⟨y9145481, hy_⟩ : ∃ y_ : List Int, y_ = (([tx2, tx4] : List Int)) := ⟨_, rfl⟩; replace H : ((impl_firstCode.f kj8 y9145481).bind fun t367 => (some t367)) = some r := z0_; have Ny9145481 := a_ hy_; clear hy_; replace H := Option.bind_eq_some_iff.mp H; obtain ⟨tx5, Ay5, H⟩ := H; have Ax5 := a_ Ay5; clear Ay5; obtain rfl := Option.some.inj H; have m1_1 := t_; have m1_3 := t_; have m1_5 := t_; have m1_7 := t_; rotate_left
        all_goals (
         try go_wp2
         have n0_ := a_ (blk_drew BK353.out); have n1_ := a_ (below_drew1 HB.out); clear BK353; clear HB; have BK353 := n0_; have HB := n1_; clear n0_ n1_; refine start_ (n := 18) (S := fun w' => w'.cell? ⟨gb353, 0, none⟩ = some (.int .i64 a0_0) ∧ w'.cell? ⟨gb353, 1, none⟩ = some (.int .i64 a0_1) ∧ w'.cell? ⟨gb353, 2, none⟩ = some (.int .i64 a0_2) ∧ w'.cell? ⟨gb353, 3, none⟩ = some (.int .i64 a0_3)) (ds := []) #[F_,F_,F_,F_,F_,F_,F_,F_,F_,F_,F_,F_,F_,F_,F_,F_,F_,F_] y38_ rfl rfl ⟨(blk_cell BK353.out 0).trans rfl, (blk_cell BK353.out 1).trans rfl, (blk_cell BK353.out 2).trans rfl, (blk_cell BK353.out 3).trans rfl⟩ (fun hHeld => ?_); refine with_tabW impl_nodeFault.tab5 impl_nodeFault.bits5 (fun HT_ HW_ => ?_); generalize wc.drew = w9653802 at BK353 HB hHeld ⊢; refine pure_ (i := 0) (N := some 18) #[T_,F_,F_,F_,F_,F_,F_,F_,F_,F_,F_,F_,F_,F_,F_,F_,F_,F_] rfl rfl z1_ (fun _ _ _ h => h) (Or.inl ⟨rfl, z2_⟩) z3_ ?_; refine pure_ (i := 9) (N := some 27) #[T_,F_,F_,F_,F_,F_,F_,F_,F_,T_,F_,F_,F_,F_,F_,F_,F_,F_] rfl rfl z1_ (fun _ _ _ h => h) (Or.inl ⟨rfl, z2_⟩) z3_ ?_; refine pure_ (i := 11) (N := some 29) #[T_,F_,F_,F_,F_,F_,F_,F_,F_,T_,F_,T_,F_,F_,F_,F_,F_,F_] rfl rfl z1_ (fun _ _ _ h => h) (Or.inl ⟨rfl, z2_⟩) z3_ ?_; refine take_ (i := 1) (N := some 19) #[T_,T_,F_,F_,F_,F_,F_,F_,F_,T_,F_,T_,F_,F_,F_,F_,F_,F_] rfl rfl z4_ (fun _ _ _ h => h) (Or.inl ⟨rfl, z11_⟩) hHeld z3_ ?_; refine pure_ (i := 2) (N := some 20) #[T_,T_,T_,F_,F_,F_,F_,F_,F_,T_,F_,T_,F_,F_,F_,F_,F_,F_] rfl rfl z1_ (fun _ _ _ h => h) (Or.inl ⟨rfl, z2_⟩) z3_ ?_; refine pure_ (i := 3) (N := some 21) #[T_,T_,T_,T_,F_,F_,F_,F_,F_,T_,F_,T_,F_,F_,F_,F_,F_,F_] rfl rfl z1_ (fun _ _ _ h => h) (Or.inl ⟨rfl, z2_⟩) z3_ ?_
         first
         | fail_if_success clear m1_0
         |(clear m1_0; refine pure_ (i := 4) (N := some 22) #[T_,T_,T_,T_,T_,F_,F_,F_,F_,T_,F_,T_,F_,F_,F_,F_,F_,F_] rfl rfl z1_ (fun _ _ _ h => h) (Or.inl ⟨rfl, z2_⟩) z3_ ?_; refine take_ (i := 5) (N := some 23) #[T_,T_,T_,T_,T_,T_,F_,F_,F_,T_,F_,T_,F_,F_,F_,F_,F_,F_] rfl rfl z4_ (fun _ _ _ h => h) (Or.inl ⟨rfl, z11_⟩) hHeld z3_ ?_; refine pure_ (i := 6) (N := some 24) #[T_,T_,T_,T_,T_,T_,T_,F_,F_,T_,F_,T_,F_,F_,F_,F_,F_,F_] rfl rfl z1_ (fun _ _ _ h => h) (Or.inl ⟨rfl, z2_⟩) z3_ ?_)
         first
         | fail_if_success clear m1_1
         |(clear m1_1; refine pure_ (i := 4) (N := some 22) (v := undef) (a' := ?_) #[T_,T_,T_,T_,T_,F_,F_,F_,F_,T_,F_,T_,F_,F_,F_,F_,F_,F_] rfl rfl (any_of HT_.out y38_) (fun _ _ _ h => h) (Or.inr ⟨by rfl, rfl⟩) ?_ ?_; rotate_left
           ·simp only [Act.put, List.setIfInBounds_toArray, List.set_cons_zero, List.set_cons_succ, i64_w, i32_w]
            rfl
           refine pure_ (i := 5) (N := some 23) (v := undef) (a' := ?_) #[T_,T_,T_,T_,T_,T_,F_,F_,F_,T_,F_,T_,F_,F_,F_,F_,F_,F_] rfl rfl (any_of HT_.out y38_) (fun _ _ _ h => h) (Or.inr ⟨by rfl, rfl⟩) ?_ ?_; rotate_left
           ·simp only [Act.put, List.setIfInBounds_toArray, List.set_cons_zero, List.set_cons_succ, i64_w, i32_w]
            rfl
           refine pure_ (i := 6) (N := some 24) (v := undef) (a' := ?_) #[T_,T_,T_,T_,T_,T_,T_,F_,F_,T_,F_,T_,F_,F_,F_,F_,F_,F_] rfl rfl (any_of HT_.out y38_) (fun _ _ _ h => h) (Or.inr ⟨by rfl, rfl⟩) ?_ ?_; rotate_left
           ·simp only [Act.put, List.setIfInBounds_toArray, List.set_cons_zero, List.set_cons_succ, i64_w, i32_w]
            rfl)
         refine pure_ (i := 7) (N := some 25) #[T_,T_,T_,T_,T_,T_,T_,T_,F_,T_,F_,T_,F_,F_,F_,F_,F_,F_] rfl rfl z1_ (fun _ _ _ h => h) (Or.inl ⟨rfl, z2_⟩) z3_ ?_; refine take_ (i := 10) (N := some 28) #[T_,T_,T_,T_,T_,T_,T_,T_,F_,T_,T_,T_,F_,F_,F_,F_,F_,F_] rfl rfl z4_ (fun _ _ _ h => h) (Or.inl ⟨rfl, z11_⟩) hHeld z3_ ?_; refine one_ (i := 8) (N := some 26) #[T_,T_,T_,T_,T_,T_,T_,T_,T_,T_,T_,T_,F_,F_,F_,F_,F_,F_] rfl rfl (one_of HT_.out y38_) y36_ (fun K hK => ?_)
         first
         | fail_if_success clear m1_2
         |(clear m1_2; refine goes_ Try.func49 y38_ rfl #[.bool (a0_3 != 0), .int .i64 1] (by rfl) rfl rfl y7_ ?_; with_reducible refine (impl_codeIf.calls (a0_3 != 0) 1 tx2 _ Ax2.out).mono ?_)
         first
         | fail_if_success clear m1_3
         |(clear m1_3; refine goes_ Try.func49 y38_ rfl #[.bool true, .int .i64 1] (by rfl) rfl rfl y7_ ?_; with_reducible refine (impl_codeIf.calls true 1 tx2 _ Ax2.out).mono ?_)
         rintro e w' ⟨rfl, ⟨nd, rfl⟩⟩; refine ⟨_, rfl, ?_⟩; refine hK.out _ _ ⟨(blk_cell BK353.out 0).trans rfl, (blk_cell BK353.out 1).trans rfl, (blk_cell BK353.out 2).trans rfl, (blk_cell BK353.out 3).trans rfl⟩ (fun hHeld => ?_); clear hK K; refine norm_ z22_ ?_; refine one_ (i := 12) (N := some 30) #[T_,T_,T_,T_,T_,T_,T_,T_,T_,T_,T_,T_,T_,F_,F_,F_,F_,F_] rfl rfl (one_of HT_.out y38_) y36_ (fun K hK => ?_); refine goes_ Try.func29 y38_ rfl #[.int .i64 a0_1, .int .i64 0, .int .i64 x5_8] (by rfl) rfl rfl y7_ ?_; with_reducible refine (impl_inRange.calls a0_1 0 x5_8 tx3 _ Ax3.out).mono ?_
         rintro e w' ⟨rfl, ⟨nd, rfl⟩⟩; refine ⟨_, rfl, ?_⟩; refine hK.out _ _ ⟨(blk_cell BK353.out 0).trans rfl, (blk_cell BK353.out 1).trans rfl, (blk_cell BK353.out 2).trans rfl, (blk_cell BK353.out 3).trans rfl⟩ (fun hHeld => ?_); clear hK K; refine norm_ z23_ ?_; refine pure_ (i := 13) (N := some 31) #[T_,T_,T_,T_,T_,T_,T_,T_,T_,T_,T_,T_,T_,T_,F_,F_,F_,F_] rfl rfl z1_ (fun _ _ _ h => h) (Or.inl ⟨rfl, z2_⟩) z3_ ?_; refine one_ (i := 14) (N := some 32) #[T_,T_,T_,T_,T_,T_,T_,T_,T_,T_,T_,T_,T_,T_,T_,F_,F_,F_] rfl rfl (one_of HT_.out y38_) y36_ (fun K hK => ?_); refine goes_ Try.func49 y38_ rfl #[.bool (!tx3), .int .i64 3] (by rfl) rfl rfl y7_ ?_; with_reducible refine (impl_codeIf.calls (!tx3) 3 tx4 _ Ax4.out).mono ?_
         rintro e w' ⟨rfl, ⟨nd, rfl⟩⟩; refine ⟨_, rfl, ?_⟩; refine hK.out _ _ ⟨(blk_cell BK353.out 0).trans rfl, (blk_cell BK353.out 1).trans rfl, (blk_cell BK353.out 2).trans rfl, (blk_cell BK353.out 3).trans rfl⟩ (fun hHeld => ?_); clear hK K; refine norm_ z24_ ?_; refine one_ (i := 15) (N := some 33) #[T_,T_,T_,T_,T_,T_,T_,T_,T_,T_,T_,T_,T_,T_,T_,T_,F_,F_] rfl rfl (one_of HT_.out y38_) y36_ (fun K hK => ?_); refine Kd.R_lit_step (Kd.int .i64) _ 2 ?hg (N := 33) ?hd (xs := ([tx2, tx4] : List Int)) (inner := [.int .i64 tx2, .int .i64 tx4]) (ok := fun _ => True) (okp := fun _ => True) ?hr ?hp (fun _ hk => hk) trivial (Below.refl _ _) (Nat.le_refl _) y57_ ?_; (case hd => rfl); (case hg => rfl); (case hr => first | (go_simp; done) | (go_simp; rfl)); (case hp => exact (Reps.one (show Kd.M (Kd.int .i64) _ _ _ tx2 [.int .i64 tx2] from rfl) (Reps.one (show Kd.M (Kd.int .i64) _ _ _ tx4 [.int .i64 tx4] from rfl) (Reps.none _ _)))); intro v9383567 w9760125 ho9788420 hb hg_ hnew_; clear hg_ hnew_
         first
         | fail_if_success clear m1_4
         |(clear m1_4; (first | rw [← Ny9595925.out] at ho9788420 | (simp only [Int.reduceToNat] at ho9788420; rw [← Ny9595925.out] at ho9788420)))
         first
         | fail_if_success clear m1_5
         |(clear m1_5; (first | rw [← Ny9145481.out] at ho9788420 | (simp only [Int.reduceToNat] at ho9788420; rw [← Ny9145481.out] at ho9788420)))
         have n0_ := a_ (Kd.R_lower ho9788420 (below_size y29_)); have n1_ := a_ (blk_below (g := gb353) (o := .cells #[.int .i64 a0_0, .int .i64 a0_1, .int .i64 a0_2, .int .i64 a0_3] 74 (0, 0)) y50_ hb); have n2_ := a_ (below_step y29_ hb); clear BK353; clear HB; have HO9369609 := n0_; have BK353 := n1_; have HB := n2_; clear n0_ n1_ n2_; clear hb ho9788420; obtain ⟨Ao9997294, co9997294, eo9997294⟩ := Kd.R_slice HO9369609.out; (first | subst eo9997294 | (injection eo9997294 with f1_ f2_ f3_; have f4_ := f1_.symm; have f5_ := f3_.symm; clear f1_ f2_ f3_; subst f4_; subst f5_)); refine hK.out _ _ ⟨(blk_cell BK353.out 0).trans rfl, (blk_cell BK353.out 1).trans rfl, (blk_cell BK353.out 2).trans rfl, (blk_cell BK353.out 3).trans rfl⟩ (fun hHeld => ?_); clear hK K; refine norm_ z25_ ?_; refine one_ (i := 16) (N := some 34) #[T_,T_,T_,T_,T_,T_,T_,T_,T_,T_,T_,T_,T_,T_,T_,T_,T_,F_] rfl rfl (one_of HT_.out y38_) y36_ (fun K hK => ?_)
         first
         | fail_if_success clear m1_6
         |(clear m1_6; refine goes_ Try.func32 y38_ rfl #[.slice Ao9997294 y9595925.length co9997294] (by rfl) rfl rfl y7_ ?_; with_reducible refine (impl_firstCode.calls kj8 _ _ y9595925 tx5 _ ?side1 ?side2 Ax5.out).mono ?_)
         first
         | fail_if_success clear m1_7
         |(clear m1_7; refine goes_ Try.func32 y38_ rfl #[.slice Ao9997294 y9145481.length co9997294] (by rfl) rfl rfl y7_ ?_; with_reducible refine (impl_firstCode.calls kj8 _ _ y9145481 tx5 _ ?side1 ?side2 Ax5.out).mono ?_)
         (case side1 => repeat (first | exact (Kd.R_reads' HO9369609.out).2.2 | (with_reducible refine Kd.C_alloc ?_ _) | (with_reducible refine Kd.C_drewN ?_ _) | (with_reducible refine Kd.C_drew ?_))); (case side2 => exact (Kd.R_reads' HO9369609.out).2.1); rintro e w' ⟨rfl, ⟨nd, rfl⟩⟩; refine ⟨_, rfl, ?_⟩; refine hK.out _ _ ⟨(blk_cell BK353.out 0).trans rfl, (blk_cell BK353.out 1).trans rfl, (blk_cell BK353.out 2).trans rfl, (blk_cell BK353.out 3).trans rfl⟩ (fun hHeld => ?_); clear hK K; refine norm_ z26_ ?_; refine pure_ (i := 17) (N := some 4) #[T_,T_,T_,T_,T_,T_,T_,T_,T_,T_,T_,T_,T_,T_,T_,T_,T_,T_] rfl rfl z1_ (fun _ _ _ h => h) (Or.inl ⟨rfl, z2_⟩) z3_ ?_; refine done_ (done_of HT_.out y38_) ?_; try go_wp2
         go_ret
         exact ⟨y4_, y29_⟩))
    first
    | fail_if_success clear m0_1
    |(clear m0_1; try go_wp2
      have n0_ := a_ (blk_drew BK353.out); have n1_ := a_ (below_drew1 HB.out); clear BK353; clear HB; have BK353 := n0_; have HB := n1_; clear n0_ n1_; refine start_ (n := 19) (S := fun w' => w'.cell? ⟨gb353, 0, none⟩ = some (.int .i64 a0_0) ∧ w'.cell? ⟨gb353, 1, none⟩ = some (.int .i64 a0_1) ∧ w'.cell? ⟨gb353, 2, none⟩ = some (.int .i64 a0_2) ∧ w'.cell? ⟨gb353, 3, none⟩ = some (.int .i64 a0_3)) (ds := []) #[F_,F_,F_,F_,F_,F_,F_,F_,F_,F_,F_,F_,F_,F_,F_,F_,F_,F_,F_] y38_ rfl rfl ⟨(blk_cell BK353.out 0).trans rfl, (blk_cell BK353.out 1).trans rfl, (blk_cell BK353.out 2).trans rfl, (blk_cell BK353.out 3).trans rfl⟩ (fun hHeld => ?_); refine with_tabW impl_nodeFault.tab7 impl_nodeFault.bits7 (fun HT_ HW_ => ?_); generalize wc.drew = w9653802 at BK353 HB hHeld ⊢; refine pure_ (i := 0) (N := some 39) #[T_,F_,F_,F_,F_,F_,F_,F_,F_,F_,F_,F_,F_,F_,F_,F_,F_,F_,F_] rfl rfl z1_ (fun _ _ _ h => h) (Or.inl ⟨rfl, z2_⟩) z3_ ?_; refine pure_ (i := 9) (N := some 48) #[T_,F_,F_,F_,F_,F_,F_,F_,F_,T_,F_,F_,F_,F_,F_,F_,F_,F_,F_] rfl rfl z1_ (fun _ _ _ h => h) (Or.inl ⟨rfl, z2_⟩) z3_ ?_; refine pure_ (i := 11) (N := some 50) #[T_,F_,F_,F_,F_,F_,F_,F_,F_,T_,F_,T_,F_,F_,F_,F_,F_,F_,F_] rfl rfl z1_ (fun _ _ _ h => h) (Or.inl ⟨rfl, z2_⟩) z3_ ?_; refine pure_ (i := 12) (N := some 51) #[T_,F_,F_,F_,F_,F_,F_,F_,F_,T_,F_,T_,T_,F_,F_,F_,F_,F_,F_] rfl rfl z1_ (fun _ _ _ h => h) (Or.inl ⟨rfl, z2_⟩) z3_ ?_; refine take_ (i := 1) (N := some 40) #[T_,T_,F_,F_,F_,F_,F_,F_,F_,T_,F_,T_,T_,F_,F_,F_,F_,F_,F_] rfl rfl z4_ (fun _ _ _ h => h) (Or.inl ⟨rfl, z11_⟩) hHeld z3_ ?_; refine pure_ (i := 2) (N := some 41) #[T_,T_,T_,F_,F_,F_,F_,F_,F_,T_,F_,T_,T_,F_,F_,F_,F_,F_,F_] rfl rfl z1_ (fun _ _ _ h => h) (Or.inl ⟨rfl, z2_⟩) z3_ ?_; refine pure_ (i := 3) (N := some 42) #[T_,T_,T_,T_,F_,F_,F_,F_,F_,T_,F_,T_,T_,F_,F_,F_,F_,F_,F_] rfl rfl z1_ (fun _ _ _ h => h) (Or.inl ⟨rfl, z2_⟩) z3_ ?_)
    first
    | fail_if_success clear m0_2
    |(clear m0_2; refine pure_ (i := 4) (N := some 43) #[T_,T_,T_,T_,T_,F_,F_,F_,F_,T_,F_,T_,T_,F_,F_,F_,F_,F_,F_] rfl rfl z1_ (fun _ _ _ h => h) (Or.inl ⟨rfl, z2_⟩) z3_ ?_; refine take_ (i := 5) (N := some 44) #[T_,T_,T_,T_,T_,T_,F_,F_,F_,T_,F_,T_,T_,F_,F_,F_,F_,F_,F_] rfl rfl z4_ (fun _ _ _ h => h) (Or.inl ⟨rfl, z11_⟩) hHeld z3_ ?_; refine pure_ (i := 6) (N := some 45) #[T_,T_,T_,T_,T_,T_,T_,F_,F_,T_,F_,T_,T_,F_,F_,F_,F_,F_,F_] rfl rfl z1_ (fun _ _ _ h => h) (Or.inl ⟨rfl, z2_⟩) z3_ ?_)
    first
    | fail_if_success clear m0_3
    |(clear m0_3; refine pure_ (i := 4) (N := some 43) (v := undef) (a' := ?_) #[T_,T_,T_,T_,T_,F_,F_,F_,F_,T_,F_,T_,T_,F_,F_,F_,F_,F_,F_] rfl rfl (any_of HT_.out y38_) (fun _ _ _ h => h) (Or.inr ⟨by rfl, rfl⟩) ?_ ?_; rotate_left
      ·simp only [Act.put, List.setIfInBounds_toArray, List.set_cons_zero, List.set_cons_succ, i64_w, i32_w]
       rfl
      refine pure_ (i := 5) (N := some 44) (v := undef) (a' := ?_) #[T_,T_,T_,T_,T_,T_,F_,F_,F_,T_,F_,T_,T_,F_,F_,F_,F_,F_,F_] rfl rfl (any_of HT_.out y38_) (fun _ _ _ h => h) (Or.inr ⟨by rfl, rfl⟩) ?_ ?_; rotate_left
      ·simp only [Act.put, List.setIfInBounds_toArray, List.set_cons_zero, List.set_cons_succ, i64_w, i32_w]
       rfl
      refine pure_ (i := 6) (N := some 45) (v := undef) (a' := ?_) #[T_,T_,T_,T_,T_,T_,T_,F_,F_,T_,F_,T_,T_,F_,F_,F_,F_,F_,F_] rfl rfl (any_of HT_.out y38_) (fun _ _ _ h => h) (Or.inr ⟨by rfl, rfl⟩) ?_ ?_; rotate_left
      ·simp only [Act.put, List.setIfInBounds_toArray, List.set_cons_zero, List.set_cons_succ, i64_w, i32_w]
       rfl)
    first
    | fail_if_success clear m0_4
    |(clear m0_4; refine pure_ (i := 7) (N := some 46) #[T_,T_,T_,T_,T_,T_,T_,T_,F_,T_,F_,T_,T_,F_,F_,F_,F_,F_,F_] rfl rfl z1_ (fun _ _ _ h => h) (Or.inl ⟨rfl, z2_⟩) z3_ ?_; refine take_ (i := 10) (N := some 49) #[T_,T_,T_,T_,T_,T_,T_,T_,F_,T_,T_,T_,T_,F_,F_,F_,F_,F_,F_] rfl rfl z4_ (fun _ _ _ h => h) (Or.inl ⟨rfl, z11_⟩) hHeld z3_ ?_; refine one_ (i := 8) (N := some 47) #[T_,T_,T_,T_,T_,T_,T_,T_,T_,T_,T_,T_,T_,F_,F_,F_,F_,F_,F_] rfl rfl (one_of HT_.out y38_) y36_ (fun K hK => ?_))
    first
    | fail_if_success clear m0_5
    |(clear m0_5; refine goes_ Try.func49 y38_ rfl #[.bool (a0_3 != 0), .int .i64 1] (by rfl) rfl rfl y7_ ?_; with_reducible refine (impl_codeIf.calls (a0_3 != 0) 1 tx3 _ Ax3.out).mono ?_)
    first
    | fail_if_success clear m0_6
    |(clear m0_6; refine goes_ Try.func49 y38_ rfl #[.bool true, .int .i64 1] (by rfl) rfl rfl y7_ ?_; with_reducible refine (impl_codeIf.calls true 1 tx3 _ Ax3.out).mono ?_)
    first
    | fail_if_success clear m0_7
    |(clear m0_7; rintro e w' ⟨rfl, ⟨nd, rfl⟩⟩; refine ⟨_, rfl, ?_⟩; refine hK.out _ _ ⟨(blk_cell BK353.out 0).trans rfl, (blk_cell BK353.out 1).trans rfl, (blk_cell BK353.out 2).trans rfl, (blk_cell BK353.out 3).trans rfl⟩ (fun hHeld => ?_); clear hK K; refine norm_ z12_ ?_; refine one_ (i := 13) (N := some 52) #[T_,T_,T_,T_,T_,T_,T_,T_,T_,T_,T_,T_,T_,T_,F_,F_,F_,F_,F_] rfl rfl (one_of HT_.out y38_) y36_ (fun K hK => ?_))
    first
    | fail_if_success clear m0_8
    |(clear m0_8; try go_wp2_with (first | ((with_reducible refine gate_callee (f := 64) rfl ?_); refine gc_ 64 60 Try.func64 #[.int .i64 a0_0] ?_; (with_reducible refine (impl_isTwo.calls a0_0 _ _ Ax2.out).mono ?_); rintro e w' ⟨rfl, ⟨nd, rfl⟩⟩; refine ⟨_, rfl, ?_⟩))
      (try (rw [drewN_self wc]; generalize hq_ : World.drewN wc _ = wc; have n0_ : Aside0 (wc.heap[gb353]? = some (.cells #[.int .i64 a0_0, .int .i64 a0_1, .int .i64 a0_2, .int .i64 a0_3] 74 (0, 0))) := ⟨by rw [← hq_]; exact y50_⟩; have n1_ : Aside0 (Below w.heap.size w wc) := ⟨by rw [← hq_]; exact y29_⟩; clear BK353 HB hq_; have BK353 := n0_; have HB := n1_; clear n0_ n1_)); have n0_ := a_ (blk_drew BK353.out); have n1_ := a_ (below_drew1 HB.out); clear BK353; clear HB; have BK353 := n0_; have HB := n1_; clear n0_ n1_; refine start_ (n := 22) (S := fun w' => w'.cell? ⟨gb353, 0, none⟩ = some (.int .i64 a0_0) ∧ w'.cell? ⟨gb353, 1, none⟩ = some (.int .i64 a0_1) ∧ w'.cell? ⟨gb353, 2, none⟩ = some (.int .i64 a0_2) ∧ w'.cell? ⟨gb353, 3, none⟩ = some (.int .i64 a0_3)) (ds := []) #[F_,F_,F_,F_,F_,F_,F_,F_,F_,F_,F_,F_,F_,F_,F_,F_,F_,F_,F_,F_,F_,F_] y38_ rfl rfl ⟨(blk_cell BK353.out 0).trans rfl, (blk_cell BK353.out 1).trans rfl, (blk_cell BK353.out 2).trans rfl, (blk_cell BK353.out 3).trans rfl⟩ (fun hHeld => ?_); refine with_tabW impl_nodeFault.tab9 impl_nodeFault.bits9 (fun HT_ HW_ => ?_); generalize wc.drew = w9653802 at BK353 HB hHeld ⊢; refine pure_ (i := 0) (N := some 61) #[T_,F_,F_,F_,F_,F_,F_,F_,F_,F_,F_,F_,F_,F_,F_,F_,F_,F_,F_,F_,F_,F_] rfl rfl z1_ (fun _ _ _ h => h) (Or.inl ⟨rfl, z2_⟩) z3_ ?_; refine pure_ (i := 4) (N := some 65) #[T_,F_,F_,F_,T_,F_,F_,F_,F_,F_,F_,F_,F_,F_,F_,F_,F_,F_,F_,F_,F_,F_] rfl rfl z1_ (fun _ _ _ h => h) (Or.inl ⟨rfl, z2_⟩) z3_ ?_; refine pure_ (i := 6) (N := some 67) #[T_,F_,F_,F_,T_,F_,T_,F_,F_,F_,F_,F_,F_,F_,F_,F_,F_,F_,F_,F_,F_,F_] rfl rfl z1_ (fun _ _ _ h => h) (Or.inl ⟨rfl, z2_⟩) z3_ ?_; refine pure_ (i := 7) (N := some 68) #[T_,F_,F_,F_,T_,F_,T_,T_,F_,F_,F_,F_,F_,F_,F_,F_,F_,F_,F_,F_,F_,F_] rfl rfl z1_ (fun _ _ _ h => h) (Or.inl ⟨rfl, z2_⟩) z3_ ?_; refine take_ (i := 1) (N := some 62) #[T_,T_,F_,F_,T_,F_,T_,T_,F_,F_,F_,F_,F_,F_,F_,F_,F_,F_,F_,F_,F_,F_] rfl rfl z4_ (fun _ _ _ h => h) (Or.inl ⟨rfl, z11_⟩) hHeld z3_ ?_
      refine pure_ (i := 2) (N := some 63) #[T_,T_,T_,F_,T_,F_,T_,T_,F_,F_,F_,F_,F_,F_,F_,F_,F_,F_,F_,F_,F_,F_] rfl rfl z1_ (fun _ _ _ h => h) (Or.inl ⟨rfl, z2_⟩) z3_ ?_; refine take_ (i := 5) (N := some 66) #[T_,T_,T_,F_,T_,T_,T_,T_,F_,F_,F_,F_,F_,F_,F_,F_,F_,F_,F_,F_,F_,F_] rfl rfl z4_ (fun _ _ _ h => h) (Or.inl ⟨rfl, z11_⟩) hHeld z3_ ?_; refine one_ (i := 3) (N := some 64) #[T_,T_,T_,T_,T_,T_,T_,T_,F_,F_,F_,F_,F_,F_,F_,F_,F_,F_,F_,F_,F_,F_] rfl rfl (one_of HT_.out y38_) y36_ (fun K hK => ?_); refine goes_ Try.func49 y38_ rfl #[.bool (a0_1 != 0), .int .i64 1] (by rfl) rfl rfl y7_ ?_; with_reducible refine (impl_codeIf.calls (a0_1 != 0) 1 tx4 _ Ax4.out).mono ?_
      rintro e w' ⟨rfl, ⟨nd, rfl⟩⟩; refine ⟨_, rfl, ?_⟩; refine hK.out _ _ ⟨(blk_cell BK353.out 0).trans rfl, (blk_cell BK353.out 1).trans rfl, (blk_cell BK353.out 2).trans rfl, (blk_cell BK353.out 3).trans rfl⟩ (fun hHeld => ?_); clear hK K; refine norm_ z17_ ?_; refine one_ (i := 8) (N := some 69) #[T_,T_,T_,T_,T_,T_,T_,T_,T_,F_,F_,F_,F_,F_,F_,F_,F_,F_,F_,F_,F_,F_] rfl rfl (one_of HT_.out y38_) y36_ (fun K hK => ?_))
    first
    | fail_if_success clear m0_9
    |(clear m0_9; refine goes_ Try.func29 y38_ rfl #[.int .i64 a0_2, .int .i64 0, .int .i64 (wrap64 (a1 - 1))] (by rfl) rfl rfl y7_ ?_)
    first
    | fail_if_success clear m0_10
    |(clear m0_10; with_reducible refine (impl_inRange.calls a0_2 0 (wrap64 (a1 - 1)) tx4 _ Ax4.out).mono ?_
      rintro e w' ⟨rfl, ⟨nd, rfl⟩⟩; refine ⟨_, rfl, ?_⟩; refine hK.out _ _ ⟨(blk_cell BK353.out 0).trans rfl, (blk_cell BK353.out 1).trans rfl, (blk_cell BK353.out 2).trans rfl, (blk_cell BK353.out 3).trans rfl⟩ (fun hHeld => ?_); clear hK K; refine norm_ z13_ ?_; refine pure_ (i := 14) (N := some 53) #[T_,T_,T_,T_,T_,T_,T_,T_,T_,T_,T_,T_,T_,T_,T_,F_,F_,F_,F_] rfl rfl z1_ (fun _ _ _ h => h) (Or.inl ⟨rfl, z2_⟩) z3_ ?_; refine one_ (i := 15) (N := some 54) #[T_,T_,T_,T_,T_,T_,T_,T_,T_,T_,T_,T_,T_,T_,T_,T_,F_,F_,F_] rfl rfl (one_of HT_.out y38_) y36_ (fun K hK => ?_); refine goes_ Try.func49 y38_ rfl #[.bool (!tx4), .int .i64 3] (by rfl) rfl rfl y7_ ?_; with_reducible refine (impl_codeIf.calls (!tx4) 3 tx5 _ Ax5.out).mono ?_
      rintro e w' ⟨rfl, ⟨nd, rfl⟩⟩; refine ⟨_, rfl, ?_⟩; refine hK.out _ _ ⟨(blk_cell BK353.out 0).trans rfl, (blk_cell BK353.out 1).trans rfl, (blk_cell BK353.out 2).trans rfl, (blk_cell BK353.out 3).trans rfl⟩ (fun hHeld => ?_); clear hK K; refine norm_ z14_ ?_; refine one_ (i := 16) (N := some 55) #[T_,T_,T_,T_,T_,T_,T_,T_,T_,T_,T_,T_,T_,T_,T_,T_,T_,F_,F_] rfl rfl (one_of HT_.out y38_) y36_ (fun K hK => ?_); refine Kd.R_lit_step (Kd.int .i64) _ 2 ?hg (N := 55) ?hd (xs := ([tx3, tx5] : List Int)) (inner := [.int .i64 tx3, .int .i64 tx5]) (ok := fun _ => True) (okp := fun _ => True) ?hr ?hp (fun _ hk => hk) trivial (Below.refl _ _) (Nat.le_refl _) y57_ ?_; (case hd => rfl); (case hg => rfl); (case hr => first | (go_simp; done) | (go_simp; rfl)); (case hp => exact (Reps.one (show Kd.M (Kd.int .i64) _ _ _ tx3 [.int .i64 tx3] from rfl) (Reps.one (show Kd.M (Kd.int .i64) _ _ _ tx5 [.int .i64 tx5] from rfl) (Reps.none _ _)))); intro v9383567 w9760125 ho9788420 hb hg_ hnew_; clear hg_ hnew_)
    first
    | fail_if_success clear m0_11
    |(clear m0_11; (first | rw [← Ny371.out] at ho9788420 | (simp only [Int.reduceToNat] at ho9788420; rw [← Ny371.out] at ho9788420)))
    first
    | fail_if_success clear m0_12
    |(clear m0_12; (first | rw [← Ny378.out] at ho9788420 | (simp only [Int.reduceToNat] at ho9788420; rw [← Ny378.out] at ho9788420)))
    first
    | fail_if_success clear m0_13
    |(clear m0_13; with_reducible refine (impl_inRange.calls a0_2 0 (wrap64 (a1 - 1)) _ _ Ax5.out).mono ?_
      rintro e w' ⟨rfl, ⟨nd, rfl⟩⟩; refine ⟨_, rfl, ?_⟩; refine hK.out _ _ ⟨(blk_cell BK353.out 0).trans rfl, (blk_cell BK353.out 1).trans rfl, (blk_cell BK353.out 2).trans rfl, (blk_cell BK353.out 3).trans rfl⟩ (fun hHeld => ?_); clear hK K; refine norm_ z10_ ?_; refine pure_ (i := 9) (N := some 70) #[T_,T_,T_,T_,T_,T_,T_,T_,T_,T_,F_,F_,F_,F_,F_,F_,F_,F_,F_,F_,F_,F_] rfl rfl z1_ (fun _ _ _ h => h) (Or.inl ⟨rfl, z2_⟩) z3_ ?_; refine pure_ (i := 10) (N := some 71) #[T_,T_,T_,T_,T_,T_,T_,T_,T_,T_,T_,F_,F_,F_,F_,F_,F_,F_,F_,F_,F_,F_] rfl rfl z1_ (fun _ _ _ h => h) (Or.inl ⟨rfl, z2_⟩) z3_ ?_)
    first
    | fail_if_success clear m0_14
    |(clear m0_14; refine pure_ (i := 11) (N := some 72) #[T_,T_,T_,T_,T_,T_,T_,T_,T_,T_,T_,T_,F_,F_,F_,F_,F_,F_,F_,F_,F_,F_] rfl rfl z1_ (fun _ _ _ h => h) (Or.inl ⟨rfl, z2_⟩) z3_ ?_; refine pure_ (i := 13) (N := some 74) #[T_,T_,T_,T_,T_,T_,T_,T_,T_,T_,T_,T_,F_,T_,F_,F_,F_,F_,F_,F_,F_,F_] rfl rfl z1_ (fun _ _ _ h => h) (Or.inl ⟨rfl, z2_⟩) z3_ ?_; refine pure_ (i := 14) (N := some 75) #[T_,T_,T_,T_,T_,T_,T_,T_,T_,T_,T_,T_,F_,T_,T_,F_,F_,F_,F_,F_,F_,F_] rfl rfl z1_ (fun _ _ _ h => h) (Or.inl ⟨rfl, z2_⟩) z3_ ?_; refine take_ (i := 12) (N := some 73) #[T_,T_,T_,T_,T_,T_,T_,T_,T_,T_,T_,T_,T_,T_,T_,F_,F_,F_,F_,F_,F_,F_] rfl rfl z4_ (fun _ _ _ h => h) (Or.inl ⟨rfl, z11_⟩) hHeld z3_ ?_; refine one_ (i := 15) (N := some 76) #[T_,T_,T_,T_,T_,T_,T_,T_,T_,T_,T_,T_,T_,T_,T_,T_,F_,F_,F_,F_,F_,F_] rfl rfl (one_of HT_.out y38_) y36_ (fun K hK => ?_); refine goes_ Try.func29 y38_ rfl #[.int .i64 a0_3, .int .i64 0, .int .i64 (wrap64 (a1 - 1))] (by rfl) rfl rfl y7_ ?_; with_reducible refine (impl_inRange.calls a0_3 0 (wrap64 (a1 - 1)) tx7 _ Ax7.out).mono ?_
      rintro e w' ⟨rfl, ⟨nd, rfl⟩⟩; refine ⟨_, rfl, ?_⟩; refine hK.out _ _ ⟨(blk_cell BK353.out 0).trans rfl, (blk_cell BK353.out 1).trans rfl, (blk_cell BK353.out 2).trans rfl, (blk_cell BK353.out 3).trans rfl⟩ (fun hHeld => ?_); clear hK K; refine norm_ z18_ ?_; refine pure_ (i := 16) (N := some 77) #[T_,T_,T_,T_,T_,T_,T_,T_,T_,T_,T_,T_,T_,T_,T_,T_,T_,F_,F_,F_,F_,F_] rfl rfl z1_ (fun _ _ _ h => h) (Or.inl ⟨rfl, z2_⟩) z3_ ?_)
    first
    | fail_if_success clear m0_15
    |(clear m0_15; refine pure_ (i := 11) (N := some 72) (v := undef) (a' := ?_) #[T_,T_,T_,T_,T_,T_,T_,T_,T_,T_,T_,T_,F_,F_,F_,F_,F_,F_,F_,F_,F_,F_] rfl rfl (any_of HT_.out y38_) (fun _ _ _ h => h) (Or.inr ⟨by rfl, rfl⟩) ?_ ?_; rotate_left
      ·simp only [Act.put, List.setIfInBounds_toArray, List.set_cons_zero, List.set_cons_succ, i64_w, i32_w]
       rfl
      refine pure_ (i := 12) (N := some 73) (v := undef) (a' := ?_) #[T_,T_,T_,T_,T_,T_,T_,T_,T_,T_,T_,T_,T_,F_,F_,F_,F_,F_,F_,F_,F_,F_] rfl rfl (any_of HT_.out y38_) (fun _ _ _ h => h) (Or.inr ⟨by rfl, rfl⟩) ?_ ?_; rotate_left
      ·simp only [Act.put, List.setIfInBounds_toArray, List.set_cons_zero, List.set_cons_succ, i64_w, i32_w]
       rfl
      refine pure_ (i := 13) (N := some 74) (v := undef) (a' := ?_) #[T_,T_,T_,T_,T_,T_,T_,T_,T_,T_,T_,T_,T_,T_,F_,F_,F_,F_,F_,F_,F_,F_] rfl rfl (any_of HT_.out y38_) (fun _ _ _ h => h) (Or.inr ⟨by rfl, rfl⟩) ?_ ?_; rotate_left
      ·simp only [Act.put, List.setIfInBounds_toArray, List.set_cons_zero, List.set_cons_succ, i64_w, i32_w]
       rfl
      refine pure_ (i := 14) (N := some 75) (v := undef) (a' := ?_) #[T_,T_,T_,T_,T_,T_,T_,T_,T_,T_,T_,T_,T_,T_,T_,F_,F_,F_,F_,F_,F_,F_] rfl rfl (any_of HT_.out y38_) (fun _ _ _ h => h) (Or.inr ⟨by rfl, rfl⟩) ?_ ?_; rotate_left
      ·simp only [Act.put, List.setIfInBounds_toArray, List.set_cons_zero, List.set_cons_succ, i64_w, i32_w]
       rfl
      refine pure_ (i := 15) (N := some 76) (v := undef) (a' := ?_) #[T_,T_,T_,T_,T_,T_,T_,T_,T_,T_,T_,T_,T_,T_,T_,T_,F_,F_,F_,F_,F_,F_] rfl rfl (any_of HT_.out y38_) (fun _ _ _ h => h) (Or.inr ⟨by rfl, rfl⟩) ?_ ?_; rotate_left
      ·simp only [Act.put, List.setIfInBounds_toArray, List.set_cons_zero, List.set_cons_succ, i64_w, i32_w]
       rfl
      refine pure_ (i := 16) (N := some 77) (v := undef) (a' := ?_) #[T_,T_,T_,T_,T_,T_,T_,T_,T_,T_,T_,T_,T_,T_,T_,T_,T_,F_,F_,F_,F_,F_] rfl rfl (any_of HT_.out y38_) (fun _ _ _ h => h) (Or.inr ⟨by rfl, rfl⟩) ?_ ?_; rotate_left
      ·simp only [Act.put, List.setIfInBounds_toArray, List.set_cons_zero, List.set_cons_succ, i64_w, i32_w]
       rfl)
    first
    | fail_if_success clear m0_16
    |(clear m0_16; refine pure_ (i := 17) (N := some 78) #[T_,T_,T_,T_,T_,T_,T_,T_,T_,T_,T_,T_,T_,T_,T_,T_,T_,T_,F_,F_,F_,F_] rfl rfl z1_ (fun _ _ _ h => h) (Or.inl ⟨rfl, z2_⟩) z3_ ?_; refine one_ (i := 18) (N := some 79) #[T_,T_,T_,T_,T_,T_,T_,T_,T_,T_,T_,T_,T_,T_,T_,T_,T_,T_,T_,F_,F_,F_] rfl rfl (one_of HT_.out y38_) y36_ (fun K hK => ?_))
    first
    | fail_if_success clear m0_17
    |(clear m0_17; refine goes_ Try.func49 y38_ rfl #[.bool (!tx7), .int .i64 3] (by rfl) rfl rfl y7_ ?_; with_reducible refine (impl_codeIf.calls (!tx7) 3 tx8 _ Ax8.out).mono ?_)
    first
    | fail_if_success clear m0_18
    |(clear m0_18; refine goes_ Try.func49 y38_ rfl #[.bool true, .int .i64 3] (by rfl) rfl rfl y7_ ?_; with_reducible refine (impl_codeIf.calls true 3 tx7 _ Ax7.out).mono ?_)
    first
    | fail_if_success clear m0_19
    |(clear m0_19; rintro e w' ⟨rfl, ⟨nd, rfl⟩⟩; refine ⟨_, rfl, ?_⟩; refine hK.out _ _ ⟨(blk_cell BK353.out 0).trans rfl, (blk_cell BK353.out 1).trans rfl, (blk_cell BK353.out 2).trans rfl, (blk_cell BK353.out 3).trans rfl⟩ (fun hHeld => ?_); clear hK K; refine norm_ z19_ ?_; refine one_ (i := 19) (N := some 80) #[T_,T_,T_,T_,T_,T_,T_,T_,T_,T_,T_,T_,T_,T_,T_,T_,T_,T_,T_,T_,F_,F_] rfl rfl (one_of HT_.out y38_) y36_ (fun K hK => ?_))
    first
    | fail_if_success clear m0_20
    |(clear m0_20; refine Kd.R_lit_step (Kd.int .i64) _ 2 ?hg (N := 80) ?hd (xs := ([tx4, tx8] : List Int)) (inner := [.int .i64 tx4, .int .i64 tx8]) (ok := fun _ => True) (okp := fun _ => True) ?hr ?hp (fun _ hk => hk) trivial (Below.refl _ _) (Nat.le_refl _) y57_ ?_; (case hd => rfl); (case hg => rfl); (case hr => first | (go_simp; done) | (go_simp; rfl)); (case hp => exact (Reps.one (show Kd.M (Kd.int .i64) _ _ _ tx4 [.int .i64 tx4] from rfl) (Reps.one (show Kd.M (Kd.int .i64) _ _ _ tx8 [.int .i64 tx8] from rfl) (Reps.none _ _)))); intro v9383567 w9760125 ho9788420 hb hg_ hnew_; clear hg_ hnew_; (first | rw [← Ny387.out] at ho9788420 | (simp only [Int.reduceToNat] at ho9788420; rw [← Ny387.out] at ho9788420)))
    first
    | fail_if_success clear m0_21
    |(clear m0_21; refine Kd.R_lit_step (Kd.int .i64) _ 2 ?hg (N := 80) ?hd (xs := ([tx4, tx7] : List Int)) (inner := [.int .i64 tx4, .int .i64 tx7]) (ok := fun _ => True) (okp := fun _ => True) ?hr ?hp (fun _ hk => hk) trivial (Below.refl _ _) (Nat.le_refl _) y57_ ?_; (case hd => rfl); (case hg => rfl); (case hr => first | (go_simp; done) | (go_simp; rfl)); (case hp => exact (Reps.one (show Kd.M (Kd.int .i64) _ _ _ tx4 [.int .i64 tx4] from rfl) (Reps.one (show Kd.M (Kd.int .i64) _ _ _ tx7 [.int .i64 tx7] from rfl) (Reps.none _ _)))); intro v9383567 w9760125 ho9788420 hb hg_ hnew_; clear hg_ hnew_; (first | rw [← Ny392.out] at ho9788420 | (simp only [Int.reduceToNat] at ho9788420; rw [← Ny392.out] at ho9788420)))
    first
    | fail_if_success clear m0_22
    |(clear m0_22; have n0_ := a_ (Kd.R_lower ho9788420 (below_size y29_)); have n1_ := a_ (blk_below (g := gb353) (o := .cells #[.int .i64 a0_0, .int .i64 a0_1, .int .i64 a0_2, .int .i64 a0_3] 74 (0, 0)) y50_ hb); have n2_ := a_ (below_step y29_ hb); clear BK353; clear HB; have HO9369609 := n0_; have BK353 := n1_; have HB := n2_; clear n0_ n1_ n2_; clear hb ho9788420; obtain ⟨Ao9997294, co9997294, eo9997294⟩ := Kd.R_slice HO9369609.out; (first | subst eo9997294 | (injection eo9997294 with f1_ f2_ f3_; have f4_ := f1_.symm; have f5_ := f3_.symm; clear f1_ f2_ f3_; subst f4_; subst f5_)); refine hK.out _ _ ⟨(blk_cell BK353.out 0).trans rfl, (blk_cell BK353.out 1).trans rfl, (blk_cell BK353.out 2).trans rfl, (blk_cell BK353.out 3).trans rfl⟩ (fun hHeld => ?_); clear hK K)
    first
    | fail_if_success clear m0_23
    |(clear m0_23; refine norm_ z15_ ?_; refine one_ (i := 17) (N := some 56) #[T_,T_,T_,T_,T_,T_,T_,T_,T_,T_,T_,T_,T_,T_,T_,T_,T_,T_,F_] rfl rfl (one_of HT_.out y38_) y36_ (fun K hK => ?_))
    first
    | fail_if_success clear m0_24
    |(clear m0_24; refine goes_ Try.func32 y38_ rfl #[.slice Ao9997294 y371.length co9997294] (by rfl) rfl rfl y7_ ?_; with_reducible refine (impl_firstCode.calls kj2 _ _ y371 tx6 _ ?side1 ?side2 Ax6.out).mono ?_)
    first
    | fail_if_success clear m0_25
    |(clear m0_25; refine goes_ Try.func32 y38_ rfl #[.slice Ao9997294 y378.length co9997294] (by rfl) rfl rfl y7_ ?_; with_reducible refine (impl_firstCode.calls kj2 _ _ y378 tx6 _ ?side1 ?side2 Ax6.out).mono ?_)
    first
    | fail_if_success clear m0_26
    |(clear m0_26; refine norm_ z20_ ?_; refine one_ (i := 20) (N := some 81) #[T_,T_,T_,T_,T_,T_,T_,T_,T_,T_,T_,T_,T_,T_,T_,T_,T_,T_,T_,T_,T_,F_] rfl rfl (one_of HT_.out y38_) y36_ (fun K hK => ?_))
    first
    | fail_if_success clear m0_27
    |(clear m0_27; refine goes_ Try.func32 y38_ rfl #[.slice Ao9997294 y387.length co9997294] (by rfl) rfl rfl y7_ ?_; with_reducible refine (impl_firstCode.calls kj2 _ _ y387 tx9 _ ?side1 ?side2 Ax9.out).mono ?_)
    first
    | fail_if_success clear m0_28
    |(clear m0_28; refine goes_ Try.func32 y38_ rfl #[.slice Ao9997294 y392.length co9997294] (by rfl) rfl rfl y7_ ?_; with_reducible refine (impl_firstCode.calls kj2 _ _ y392 tx8 _ ?side1 ?side2 Ax8.out).mono ?_)
    first
    | fail_if_success clear m0_29
    |(clear m0_29; (case side1 => repeat (first | exact (Kd.R_reads' HO9369609.out).2.2 | (with_reducible refine Kd.C_alloc ?_ _) | (with_reducible refine Kd.C_drewN ?_ _) | (with_reducible refine Kd.C_drew ?_))); (case side2 => exact (Kd.R_reads' HO9369609.out).2.1); rintro e w' ⟨rfl, ⟨nd, rfl⟩⟩; refine ⟨_, rfl, ?_⟩; refine hK.out _ _ ⟨(blk_cell BK353.out 0).trans rfl, (blk_cell BK353.out 1).trans rfl, (blk_cell BK353.out 2).trans rfl, (blk_cell BK353.out 3).trans rfl⟩ (fun hHeld => ?_); clear hK K)
    first
    | fail_if_success clear m0_30
    |(clear m0_30; refine norm_ z16_ ?_; refine pure_ (i := 18) (N := some 4) #[T_,T_,T_,T_,T_,T_,T_,T_,T_,T_,T_,T_,T_,T_,T_,T_,T_,T_,T_] rfl rfl z1_ (fun _ _ _ h => h) (Or.inl ⟨rfl, z2_⟩) z3_ ?_)
    first
    | fail_if_success clear m0_31
    |(clear m0_31; refine norm_ z21_ ?_; refine pure_ (i := 21) (N := some 4) #[T_,T_,T_,T_,T_,T_,T_,T_,T_,T_,T_,T_,T_,T_,T_,T_,T_,T_,T_,T_,T_,T_] rfl rfl z1_ (fun _ _ _ h => h) (Or.inl ⟨rfl, z2_⟩) z3_ ?_)
    first
    | fail_if_success clear m0_32
    |(clear m0_32; refine done_ (done_of HT_.out y38_) ?_; try go_wp2)
    first
    | fail_if_success clear m0_33
    |(clear m0_33; go_wp2_with (first | ((with_reducible refine gate_callee (f := 64) rfl ?_); refine gc_ 64 60 Try.func64 #[.int .i64 a0_0] ?_; (with_reducible refine (impl_isTwo.calls a0_0 _ _ Ax2.out).mono ?_); rintro e w' ⟨rfl, ⟨nd, rfl⟩⟩; refine ⟨_, rfl, ?_⟩)))
    first
    | fail_if_success clear m0_34
    |(clear m0_34; go_ret
      exact ⟨y4_, y29_⟩))

end Go.Proofs.Ytjbcpghpafacaaa.I
