-- Written by a program of this session's own (xp.py) for this seat.
import Derived.Test.YtcpcenhpmcfmjaaFZ
import Derived.Test.YtcpcenhpmcfmjaaF0
namespace Go.Proofs.Ytcpcenhpmcfmjaa.F
open Go.RowKit Go.Proofs.YtcpcenhpmcfmjaaW.PrintWords Go.Proofs.YtcpcenhpmcfmjaaW.PrintLast Go.Proofs.YtcpcenhpmcfmjaaW.PrintMore
attribute [local go_sem] Instr.field asAgg
attribute [local go_sem] max2_int min2_int max_two min_two max_three min_three max_four min_four   -- for this text's walks alone
set_option linter.unusedVariables false
set_option linter.unusedSimpArgs false

/-! ### laws_szNodeS: function 90 -/
def laws_szNodeS.f (l0 : List (S149)) (a1 : Int) : Option (Int) := if (wrap64 (a1 - (l0.length : Int))) < 0 then (some (-1)) else (some (wrap64 (a1 - (l0.length : Int))))
set_option maxHeartbeats 8000000 in
set_option maxRecDepth 100000 in
theorem laws_szNodeS.calls (A0 : Option Addr) (c0 : Nat) (l0 : List (S149)) (a1 : Int) (r : Int) (w : World) (hr0 : Kd.C k149 w A0 l0.length l0) (hc0 : l0.length ≤ c0) (h : laws_szNodeS.f l0 a1 = some r) :
    Calls Try.prog 90 #[.slice A0 l0.length c0, .int .i64 a1] w fun e w' => e = .returned (.int .i64 r) ∧ Drawn0 w w' := by
 have HR0 := a_ hr0; have HC0 := a_ hc0; clear hr0 hc0; have H : (if (wrap64 (a1 - (l0.length : Int))) < 0 then (some (-1)) else (some (wrap64 (a1 - (l0.length : Int))))) = some r := h; clear h; by_cases c3 : (wrap64 (a1 - (l0.length : Int))) < 0
 ·rw [if_pos c3] at H; have c3b0 : decide ((wrap64 (a1 - (l0.length : Int))) < 0) = true := decide_eq_true c3; clear c3; obtain rfl := Option.some.inj H; go_enter Try.func90, Try.ntmps90
  go_wp2
  go_ret
  exact ⟨y6_, y15_⟩
 ·rw [if_neg c3] at H; have c3b0 : decide ((wrap64 (a1 - (l0.length : Int))) < 0) = false := decide_eq_false c3; clear c3; obtain rfl := Option.some.inj H; go_enter Try.func90, Try.ntmps90
  go_wp2
  go_ret
  exact ⟨y6_, y15_⟩

/-! ### laws_szGNode: function 79 -/
def laws_szGNode.f (a0_0 : Int) (a0_1 : Int) (a0_2 : ByteArray) (a0_3 : Int) (l0_4 : List (S149)) (a1 : Int) : Option (Int) := if (wrap64 (a1 - (a0_2.size : Int))) < 0 then (some (-1)) else ((laws_szNodeS.f l0_4 (wrap64 (a1 - (a0_2.size : Int)))).bind fun t102 => (if t102 < 0 then (some (-1)) else (some t102)))
set_option maxHeartbeats 8000000 in
set_option maxRecDepth 100000 in
theorem laws_szGNode.calls (a0_0 : Int) (a0_1 : Int) (a0_2 : ByteArray) (a0_3 : Int) (A0_4 : Option Addr) (c0_4 : Nat) (l0_4 : List (S149)) (a1 : Int) (r : Int) (w : World) (hr0_4 : Kd.C k149 w A0_4 l0_4.length l0_4) (hc0_4 : l0_4.length ≤ c0_4) (h : laws_szGNode.f a0_0 a0_1 a0_2 a0_3 l0_4 a1 = some r) :
    Calls Try.prog 79 #[.agg #[.int .i64 a0_0, .int .i64 a0_1, .string a0_2, .int .i64 a0_3, .slice A0_4 l0_4.length c0_4], .int .i64 a1] w fun e w' => e = .returned (.int .i64 r) ∧ Below w.heap.size w w' := by
 have hu100 := Try.underlying100; have HR0_4 := a_ hr0_4; have HC0_4 := a_ hc0_4; clear hr0_4 hc0_4; have HB := a_ (Below.refl w.heap.size w); have H : (if (wrap64 (a1 - (a0_2.size : Int))) < 0 then (some (-1)) else ((laws_szNodeS.f l0_4 (wrap64 (a1 - (a0_2.size : Int)))).bind fun t102 => (if t102 < 0 then (some (-1)) else (some t102)))) = some r := h; clear h; by_cases cx0 : (wrap64 (a1 - (a0_2.size : Int))) < 0; rw [if_pos cx0] at H; have cx0b0 : decide ((wrap64 (a1 - (a0_2.size : Int))) < 0) = true := decide_eq_true cx0; clear cx0; obtain rfl := Option.some.inj H; rotate_left; rw [if_neg cx0] at H; have cx0b0 : decide ((wrap64 (a1 - (a0_2.size : Int))) < 0) = false := decide_eq_false cx0; clear cx0; replace H := Option.bind_eq_some_iff.mp H; obtain ⟨tx1, Ay1, H⟩ := H; have Ax1 := a_ Ay1; clear Ay1; by_cases cx2 : tx1 < 0; rw [if_pos cx2] at H; have cx2b0 : decide (tx1 < 0) = true := decide_eq_true cx2; clear cx2; obtain rfl := Option.some.inj H; rotate_left; rw [if_neg cx2] at H; have cx2b0 : decide (tx1 < 0) = false := decide_eq_false cx2; clear cx2; obtain rfl := Option.some.inj H; rotate_left
 all_goals (
  go_enter Try.func79, Try.ntmps79
  go_wp2_with (first | ((with_reducible refine gate_dst (N := 2) rfl ?_); refine box_event zr_ (N := 2) zr_ (cs := #[.int .i64 a0_0, .int .i64 a0_1, .string a0_2, .int .i64 a0_3, .slice A0_4 l0_4.length c0_4]) (t := 100) zs_ ?_; intro gb9336862 hg w9715403 hbox hb; have n0_ := a_ (below_step y0_ hb); have n1_ := a_ (hbox); have n2_ := a_ ((by rw [hg]; exact (below_size y0_) : w.heap.size ≤ gb9336862)); have n3_ := a_ ((by rw [hg]; exact (below_size y0_) : w.heap.size ≤ gb9336862)); clear HB; have HB := n0_; have BK9336862 := n1_; have GW9336862 := n2_; have GE9336862 := n3_; clear n0_ n1_ n2_ n3_; clear hb hbox hg; have hcz9788568_0 : w9715403.cell? ⟨gb9336862, 0, none⟩ = some (.int .i64 a0_0) := (blk_cell BK9336862.out 0).trans rfl; have hcz9788568_1 : w9715403.cell? ⟨gb9336862, 1, none⟩ = some (.int .i64 a0_1) := (blk_cell BK9336862.out 1).trans rfl; have hcz9788568_2 : w9715403.cell? ⟨gb9336862, 2, none⟩ = some (.string a0_2) := (blk_cell BK9336862.out 2).trans rfl; have hcz9788568_3 : w9715403.cell? ⟨gb9336862, 3, none⟩ = some (.int .i64 a0_3) := (blk_cell BK9336862.out 3).trans rfl; have hcz9788568_4 : w9715403.cell? ⟨gb9336862, 4, none⟩ = some (.slice A0_4 l0_4.length c0_4) := (blk_cell BK9336862.out 4).trans rfl; have hfz9788568_0 := blk_frozen BK9336862.out 0; have hfz9788568_1 := blk_frozen BK9336862.out 1; have hfz9788568_2 := blk_frozen BK9336862.out 2; have hfz9788568_3 := blk_frozen BK9336862.out 3; have hfz9788568_4 := blk_frozen BK9336862.out 4) | ((with_reducible refine gate_callee (f := 90) rfl ?_); refine gc_ 90 15 Try.func90 #[.slice A0_4 l0_4.length c0_4, .int .i64 (wrap64 (a1 - (a0_2.size : Int)))] ?_; (with_reducible refine (laws_szNodeS.calls _ _ l0_4 (wrap64 (a1 - (a0_2.size : Int))) tx1 _ ?side1 ?side2 Ax1.out).mono ?_); (case side1 => repeat (first | exact (Kd.C_below HR0_4.out HB.out) | (with_reducible refine Kd.C_alloc ?_ _) | (with_reducible refine Kd.C_drewN ?_ _) | (with_reducible refine Kd.C_drew ?_))); (case side2 => exact HC0_4.out); rintro e w' ⟨rfl, ⟨nd, rfl⟩⟩; refine ⟨_, rfl, ?_⟩))
  go_ret
  exact ⟨y5_, by repeat (first | (with_reducible first | exact HB.out | apply below_alloc | apply pw_below_drewN | apply below_drew1 | refine below_set ?_ GE9336862.out) | exact HB.out)⟩)

/-! ### laws_szGNodeS: function 36 -/
def laws_szGNodeS.l0 : Nat → List (S100) → Int → Int → Option (Int)
  | 0, _, _, _ => none
  | k + 1, x0, x1, x5 => if x5 < (x0.length : Int) then (if 0 ≤ x5 then ((laws_szGNode.f ((rd_T100 x0 x5).f0) ((rd_T100 x0 x5).f1) ((rd_T100 x0 x5).f2) ((rd_T100 x0 x5).f3) ((rd_T100 x0 x5).f4) x1).bind fun t104 => (if t104 < 0 then (some (-1)) else (laws_szGNodeS.l0 k x0 t104 (wrap64 (x5 + 1))))) else (none)) else (some x1)
def laws_szGNodeS.f (k : Nat) (l0 : List (S100)) (a1 : Int) : Option (Int) := if (wrap64 (a1 - (l0.length : Int))) < 0 then (some (-1)) else (laws_szGNodeS.l0 k l0 (wrap64 (a1 - (l0.length : Int))) 0)
theorem laws_szGNodeS.mono_l : ∀ k, (∀ y0 y1 y2, LeO (laws_szGNodeS.l0 k y0 y1 y2) (laws_szGNodeS.l0 (k + 1) y0 y1 y2))
  | 0 => fun _ _ _ r h => by simp [laws_szGNodeS.l0] at h
  | k + 1 => by
    have ih0 := laws_szGNodeS.mono_l k
    · intro y0 y1 y2
      unfold laws_szGNodeS.l0
      repeat' (with_reducible first | exact ih0 _ _ _ | exact LeO.refl _ | exact LeO.none _ | refine LeO.ite ?_ ?_ | refine LeO.bind ?_ (fun _ => ?_))
theorem laws_szGNodeS.mono : ∀ a0 a1 k, LeO (laws_szGNodeS.f k a0 a1) (laws_szGNodeS.f (k + 1) a0 a1) := by
  intro a0 a1 k
  have ih0 := laws_szGNodeS.mono_l k
  unfold laws_szGNodeS.f
  repeat' (with_reducible first | exact ih0 _ _ _ | exact LeO.refl _ | exact LeO.none _ | refine LeO.ite ?_ ?_ | refine LeO.bind ?_ (fun _ => ?_))
set_option maxHeartbeats 8000000 in
set_option maxRecDepth 100000 in
theorem laws_szGNodeS.calls (k : Nat) (A0 : Option Addr) (c0 : Nat) (l0 : List (S100)) (a1 : Int) (r : Int) (w : World) (hr0 : Kd.C k100 w A0 l0.length l0) (hc0 : l0.length ≤ c0) (h : laws_szGNodeS.f k l0 a1 = some r) :
    Calls Try.prog 36 #[.slice A0 l0.length c0, .int .i64 a1] w fun e w' => e = .returned (.int .i64 r) ∧ Below w.heap.size w w' := by
 have hu100 := Try.underlying100; have HR0 := a_ hr0; have HC0 := a_ hc0; clear hr0 hc0; have HB := a_ (Below.refl w.heap.size w); have H : (if (wrap64 (a1 - (l0.length : Int))) < 0 then (some (-1)) else (laws_szGNodeS.l0 k l0 (wrap64 (a1 - (l0.length : Int))) 0)) = some r := h; clear h; by_cases cx0 : (wrap64 (a1 - (l0.length : Int))) < 0
 ·rw [if_pos cx0] at H; have cx0b0 : decide ((wrap64 (a1 - (l0.length : Int))) < 0) = true := decide_eq_true cx0; clear cx0; obtain rfl := Option.some.inj H; go_enter Try.func36, Try.ntmps36
  go_wp2
  go_ret
  exact ⟨y5_, y0_⟩
 ·rw [if_neg cx0] at H; have cx0b0 : decide ((wrap64 (a1 - (l0.length : Int))) < 0) = false := decide_eq_false cx0; clear cx0; have H' := a_ H; clear H; go_enter Try.func36, Try.ntmps36
  go_wp2
  go_loopg [1, 5] k (fun kq v1 v5 w' => ∃ (x1_1 : Int) (x5_1 : Int), v1 = .int .i64 x1_1 ∧ v5 = .int .i64 x5_1 ∧ Aside0 (laws_szGNodeS.l0 kq l0 x1_1 x5_1 = some r) ∧ Aside0 (kq ≤ k) ∧ Aside0 (Below w.heap.size w w'))
  case atStart => exact ⟨(wrap64 (a1 - (l0.length : Int))), (0), y6_, y6_, H', ⟨Nat.le_refl _⟩, ⟨y0_⟩⟩
  case round =>
   clear H'; (try clear cx0); (try clear cx0b0); obtain ⟨x1_1, x5_1, rfl, rfl, HA, HK1, HB⟩ := hrel; cases gk with
   | zero => exact absurd HA.out (by simp [laws_szGNodeS.l0])
   | succ k1 =>
    have H := HA.out; clear HA; simp only [laws_szGNodeS.l0] at H; by_cases cx1 : x5_1 < (l0.length : Int); rw [if_pos cx1] at H; have cx1b0 : decide (x5_1 < (l0.length : Int)) = true := decide_eq_true cx1; clear cx1; by_cases cx2 : 0 ≤ x5_1; rw [if_pos cx2] at H; have cx2b0 : decide (0 ≤ x5_1) = true := decide_eq_true cx2; clear cx2; replace H := Option.bind_eq_some_iff.mp H; obtain ⟨tx3, Ay3, H⟩ := H; have Ax3 := a_ Ay3; clear Ay3; by_cases cx4 : tx3 < 0; rw [if_pos cx4] at H; have cx4b0 : decide (tx3 < 0) = true := decide_eq_true cx4; clear cx4; obtain rfl := Option.some.inj H; have m1_0 := t_; have m1_1 := t_; rotate_left; rw [if_neg cx4] at H; have cx4b0 : decide (tx3 < 0) = false := decide_eq_false cx4; clear cx4; have H' := a_ H; clear H; have m1_0 := t_; have m1_2 := t_; rotate_left
    ·rw [if_neg cx2] at H; exact absurd H y166_
    rw [if_neg cx1] at H; have cx1b0 : decide (x5_1 < (l0.length : Int)) = false := decide_eq_false cx1; clear cx1; obtain rfl := Option.some.inj H; have m1_3 := t_; rotate_left
    all_goals (
     first
     | fail_if_success clear m1_0
     |(clear m1_0; have p9922068 : 0 ≤ (x5_1 : Int) := of_decide_eq_true y7_; have q9922068 : x5_1 < (l0.length : Int) := of_decide_eq_true y7_; obtain ⟨ad9922068, A103_4, c103_4, e9922068, hx9922068_0, hx9922068_1, hx9922068_2, hx9922068_3, hx9922068_4, hl9922068_4, hi103_4⟩ := at_T100 HR0.out x5_1 p9922068 q9922068; cases e9922068; replace hx9922068_0 := cT_ HB.out hx9922068_0; replace hx9922068_1 := cT_ HB.out hx9922068_1; replace hx9922068_2 := cT_ HB.out hx9922068_2; replace hx9922068_3 := cT_ HB.out hx9922068_3; replace hx9922068_4 := cT_ HB.out hx9922068_4; have HR103_4 := a_ hi103_4; have HC103_4 := a_ hl9922068_4; clear hi103_4 hl9922068_4; replace p9922068 := eq_true p9922068; replace q9922068 := eq_true q9922068; go_wp2_with (first | ((with_reducible refine gate_callee (f := 79) rfl ?_); refine gc_ 79 23 Try.func79 #[.agg #[.int .i64 ((rd_T100 l0 x5_1).f0), .int .i64 ((rd_T100 l0 x5_1).f1), .string ((rd_T100 l0 x5_1).f2), .int .i64 ((rd_T100 l0 x5_1).f3), .slice A103_4 ((rd_T100 l0 x5_1).f4).length c103_4], .int .i64 x1_1] ?_; (with_reducible refine (laws_szGNode.calls ((rd_T100 l0 x5_1).f0) ((rd_T100 l0 x5_1).f1) ((rd_T100 l0 x5_1).f2) ((rd_T100 l0 x5_1).f3) _ _ ((rd_T100 l0 x5_1).f4) x1_1 tx3 _ ?side1 ?side2 Ax3.out).mono ?_); (case side1 => repeat (first | exact (Kd.C_below HR103_4.out HB.out) | (with_reducible refine Kd.C_alloc ?_ _) | (with_reducible refine Kd.C_drewN ?_ _) | (with_reducible refine Kd.C_drew ?_))); (case side2 => exact HC103_4.out); rintro e w9842117 ⟨rfl, hb⟩; refine ⟨_, rfl, ?_⟩; have n0_ := a_ (below_step y0_ hb); clear HB; have HB := n0_; clear n0_; (try clear hb); (try clear hb9336063); (try clear hk); (try clear hi))))
     first
     | fail_if_success clear m1_1
     |(clear m1_1; go_ret
       exact ⟨y5_, y0_⟩)
     first
     | fail_if_success clear m1_2
     |(clear m1_2; go_roundg k1
       case measure => have := HK1.out; omega
       case rel => exact ⟨(tx3), (wrap64 (x5_1 + 1)), y6_, y6_, H', ⟨y91_⟩, ⟨y0_⟩⟩)
     first
     | fail_if_success clear m1_3
     |(clear m1_3; go_wp2
       go_ret
       exact ⟨y5_, y0_⟩))

/-! ### laws_szFlow: function 80 -/
def laws_szFlow.f (a0_0 : Int) (a0_1 : Int) (l0_2 : List (S149)) (a1 : Int) : Option (Int) := (laws_szNodeS.f l0_2 a1).bind fun t106 => (if t106 < 0 then (some (-1)) else (some t106))
set_option maxHeartbeats 8000000 in
set_option maxRecDepth 100000 in
theorem laws_szFlow.calls (a0_0 : Int) (a0_1 : Int) (A0_2 : Option Addr) (c0_2 : Nat) (l0_2 : List (S149)) (a1 : Int) (r : Int) (w : World) (hr0_2 : Kd.C k149 w A0_2 l0_2.length l0_2) (hc0_2 : l0_2.length ≤ c0_2) (h : laws_szFlow.f a0_0 a0_1 l0_2 a1 = some r) :
    Calls Try.prog 80 #[.agg #[.int .i64 a0_0, .int .i64 a0_1, .slice A0_2 l0_2.length c0_2], .int .i64 a1] w fun e w' => e = .returned (.int .i64 r) ∧ Below w.heap.size w w' := by
 have hu103 := Try.underlying103; have HR0_2 := a_ hr0_2; have HC0_2 := a_ hc0_2; clear hr0_2 hc0_2; have HB := a_ (Below.refl w.heap.size w); have H : ((laws_szNodeS.f l0_2 a1).bind fun t106 => (if t106 < 0 then (some (-1)) else (some t106))) = some r := h; clear h; replace H := Option.bind_eq_some_iff.mp H; obtain ⟨tx0, Ay0, H⟩ := H; have Ax0 := a_ Ay0; clear Ay0; by_cases cx1 : tx0 < 0; rw [if_pos cx1] at H; have cx1b0 : decide (tx0 < 0) = true := decide_eq_true cx1; clear cx1; obtain rfl := Option.some.inj H; rotate_left; rw [if_neg cx1] at H; have cx1b0 : decide (tx0 < 0) = false := decide_eq_false cx1; clear cx1; obtain rfl := Option.some.inj H; rotate_left
 all_goals (
  go_enter Try.func80, Try.ntmps80
  go_wp2_with (first | ((with_reducible refine gate_dst (N := 2) rfl ?_); refine box_event zr_ (N := 2) zr_ (cs := #[.int .i64 a0_0, .int .i64 a0_1, .slice A0_2 l0_2.length c0_2]) (t := 103) zs_ ?_; intro gb9591482 hg w9809917 hbox hb; have n0_ := a_ (below_step y0_ hb); have n1_ := a_ (hbox); have n2_ := a_ ((by rw [hg]; exact (below_size y0_) : w.heap.size ≤ gb9591482)); have n3_ := a_ ((by rw [hg]; exact (below_size y0_) : w.heap.size ≤ gb9591482)); clear HB; have HB := n0_; have BK9591482 := n1_; have GW9591482 := n2_; have GE9591482 := n3_; clear n0_ n1_ n2_ n3_; clear hb hbox hg; have hcz9827643_0 : w9809917.cell? ⟨gb9591482, 0, none⟩ = some (.int .i64 a0_0) := (blk_cell BK9591482.out 0).trans rfl; have hcz9827643_1 : w9809917.cell? ⟨gb9591482, 1, none⟩ = some (.int .i64 a0_1) := (blk_cell BK9591482.out 1).trans rfl; have hcz9827643_2 : w9809917.cell? ⟨gb9591482, 2, none⟩ = some (.slice A0_2 l0_2.length c0_2) := (blk_cell BK9591482.out 2).trans rfl; have hfz9827643_0 := blk_frozen BK9591482.out 0; have hfz9827643_1 := blk_frozen BK9591482.out 1; have hfz9827643_2 := blk_frozen BK9591482.out 2) | ((with_reducible refine gate_callee (f := 90) rfl ?_); refine gc_ 90 8 Try.func90 #[.slice A0_2 l0_2.length c0_2, .int .i64 a1] ?_; (with_reducible refine (laws_szNodeS.calls _ _ l0_2 a1 tx0 _ ?side1 ?side2 Ax0.out).mono ?_); (case side1 => repeat (first | exact (Kd.C_below HR0_2.out HB.out) | (with_reducible refine Kd.C_alloc ?_ _) | (with_reducible refine Kd.C_drewN ?_ _) | (with_reducible refine Kd.C_drew ?_))); (case side2 => exact HC0_2.out); rintro e w' ⟨rfl, ⟨nd, rfl⟩⟩; refine ⟨_, rfl, ?_⟩))
  go_ret
  exact ⟨y5_, by repeat (first | (with_reducible first | exact HB.out | apply below_alloc | apply pw_below_drewN | apply below_drew1 | refine below_set ?_ GE9591482.out) | exact HB.out)⟩)

/-! ### laws_szFlowS: function 37 -/
def laws_szFlowS.l0 : Nat → List (S103) → Int → Int → Option (Int)
  | 0, _, _, _ => none
  | k + 1, x0, x1, x5 => if x5 < (x0.length : Int) then (if 0 ≤ x5 then ((laws_szFlow.f ((rd_T103 x0 x5).f0) ((rd_T103 x0 x5).f1) ((rd_T103 x0 x5).f2) x1).bind fun t108 => (if t108 < 0 then (some (-1)) else (laws_szFlowS.l0 k x0 t108 (wrap64 (x5 + 1))))) else (none)) else (some x1)
def laws_szFlowS.f (k : Nat) (l0 : List (S103)) (a1 : Int) : Option (Int) := if (wrap64 (a1 - (l0.length : Int))) < 0 then (some (-1)) else (laws_szFlowS.l0 k l0 (wrap64 (a1 - (l0.length : Int))) 0)
theorem laws_szFlowS.mono_l : ∀ k, (∀ y0 y1 y2, LeO (laws_szFlowS.l0 k y0 y1 y2) (laws_szFlowS.l0 (k + 1) y0 y1 y2))
  | 0 => fun _ _ _ r h => by simp [laws_szFlowS.l0] at h
  | k + 1 => by
    have ih0 := laws_szFlowS.mono_l k
    · intro y0 y1 y2
      unfold laws_szFlowS.l0
      repeat' (with_reducible first | exact ih0 _ _ _ | exact LeO.refl _ | exact LeO.none _ | refine LeO.ite ?_ ?_ | refine LeO.bind ?_ (fun _ => ?_))
theorem laws_szFlowS.mono : ∀ a0 a1 k, LeO (laws_szFlowS.f k a0 a1) (laws_szFlowS.f (k + 1) a0 a1) := by
  intro a0 a1 k
  have ih0 := laws_szFlowS.mono_l k
  unfold laws_szFlowS.f
  repeat' (with_reducible first | exact ih0 _ _ _ | exact LeO.refl _ | exact LeO.none _ | refine LeO.ite ?_ ?_ | refine LeO.bind ?_ (fun _ => ?_))
set_option maxHeartbeats 8000000 in
set_option maxRecDepth 100000 in
theorem laws_szFlowS.calls (k : Nat) (A0 : Option Addr) (c0 : Nat) (l0 : List (S103)) (a1 : Int) (r : Int) (w : World) (hr0 : Kd.C k103 w A0 l0.length l0) (hc0 : l0.length ≤ c0) (h : laws_szFlowS.f k l0 a1 = some r) :
    Calls Try.prog 37 #[.slice A0 l0.length c0, .int .i64 a1] w fun e w' => e = .returned (.int .i64 r) ∧ Below w.heap.size w w' := by
 have hu103 := Try.underlying103; have HR0 := a_ hr0; have HC0 := a_ hc0; clear hr0 hc0; have HB := a_ (Below.refl w.heap.size w); have H : (if (wrap64 (a1 - (l0.length : Int))) < 0 then (some (-1)) else (laws_szFlowS.l0 k l0 (wrap64 (a1 - (l0.length : Int))) 0)) = some r := h; clear h; by_cases cx0 : (wrap64 (a1 - (l0.length : Int))) < 0
 ·rw [if_pos cx0] at H; have cx0b0 : decide ((wrap64 (a1 - (l0.length : Int))) < 0) = true := decide_eq_true cx0; clear cx0; obtain rfl := Option.some.inj H; go_enter Try.func37, Try.ntmps37
  go_wp2
  go_ret
  exact ⟨y5_, y0_⟩
 ·rw [if_neg cx0] at H; have cx0b0 : decide ((wrap64 (a1 - (l0.length : Int))) < 0) = false := decide_eq_false cx0; clear cx0; have H' := a_ H; clear H; go_enter Try.func37, Try.ntmps37
  go_wp2
  go_loopg [1, 5] k (fun kq v1 v5 w' => ∃ (x1_1 : Int) (x5_1 : Int), v1 = .int .i64 x1_1 ∧ v5 = .int .i64 x5_1 ∧ Aside0 (laws_szFlowS.l0 kq l0 x1_1 x5_1 = some r) ∧ Aside0 (kq ≤ k) ∧ Aside0 (Below w.heap.size w w'))
  case atStart => exact ⟨(wrap64 (a1 - (l0.length : Int))), (0), y6_, y6_, H', ⟨Nat.le_refl _⟩, ⟨y0_⟩⟩
  case round =>
   clear H'; (try clear cx0); (try clear cx0b0); obtain ⟨x1_1, x5_1, rfl, rfl, HA, HK1, HB⟩ := hrel; cases gk with
   | zero => exact absurd HA.out (by simp [laws_szFlowS.l0])
   | succ k1 =>
    have H := HA.out; clear HA; simp only [laws_szFlowS.l0] at H; by_cases cx1 : x5_1 < (l0.length : Int); rw [if_pos cx1] at H; have cx1b0 : decide (x5_1 < (l0.length : Int)) = true := decide_eq_true cx1; clear cx1; by_cases cx2 : 0 ≤ x5_1; rw [if_pos cx2] at H; have cx2b0 : decide (0 ≤ x5_1) = true := decide_eq_true cx2; clear cx2; replace H := Option.bind_eq_some_iff.mp H; obtain ⟨tx3, Ay3, H⟩ := H; have Ax3 := a_ Ay3; clear Ay3; by_cases cx4 : tx3 < 0; rw [if_pos cx4] at H; have cx4b0 : decide (tx3 < 0) = true := decide_eq_true cx4; clear cx4; obtain rfl := Option.some.inj H; have m1_0 := t_; have m1_1 := t_; rotate_left; rw [if_neg cx4] at H; have cx4b0 : decide (tx3 < 0) = false := decide_eq_false cx4; clear cx4; have H' := a_ H; clear H; have m1_0 := t_; have m1_2 := t_; rotate_left
    ·rw [if_neg cx2] at H; exact absurd H y166_
    rw [if_neg cx1] at H; have cx1b0 : decide (x5_1 < (l0.length : Int)) = false := decide_eq_false cx1; clear cx1; obtain rfl := Option.some.inj H; have m1_3 := t_; rotate_left
    all_goals (
     first
     | fail_if_success clear m1_0
     |(clear m1_0; have p9922068 : 0 ≤ (x5_1 : Int) := of_decide_eq_true y7_; have q9922068 : x5_1 < (l0.length : Int) := of_decide_eq_true y7_; obtain ⟨ad9922068, A107_2, c107_2, e9922068, hx9922068_0, hx9922068_1, hx9922068_2, hl9922068_2, hi107_2⟩ := at_T103 HR0.out x5_1 p9922068 q9922068; cases e9922068; replace hx9922068_0 := cT_ HB.out hx9922068_0; replace hx9922068_1 := cT_ HB.out hx9922068_1; replace hx9922068_2 := cT_ HB.out hx9922068_2; have HR107_2 := a_ hi107_2; have HC107_2 := a_ hl9922068_2; clear hi107_2 hl9922068_2; replace p9922068 := eq_true p9922068; replace q9922068 := eq_true q9922068; go_wp2_with (first | ((with_reducible refine gate_callee (f := 80) rfl ?_); refine gc_ 80 23 Try.func80 #[.agg #[.int .i64 ((rd_T103 l0 x5_1).f0), .int .i64 ((rd_T103 l0 x5_1).f1), .slice A107_2 ((rd_T103 l0 x5_1).f2).length c107_2], .int .i64 x1_1] ?_; (with_reducible refine (laws_szFlow.calls ((rd_T103 l0 x5_1).f0) ((rd_T103 l0 x5_1).f1) _ _ ((rd_T103 l0 x5_1).f2) x1_1 tx3 _ ?side1 ?side2 Ax3.out).mono ?_); (case side1 => repeat (first | exact (Kd.C_below HR107_2.out HB.out) | (with_reducible refine Kd.C_alloc ?_ _) | (with_reducible refine Kd.C_drewN ?_ _) | (with_reducible refine Kd.C_drew ?_))); (case side2 => exact HC107_2.out); rintro e w9672467 ⟨rfl, hb⟩; refine ⟨_, rfl, ?_⟩; have n0_ := a_ (below_step y0_ hb); clear HB; have HB := n0_; clear n0_; (try clear hb); (try clear hb9841171); (try clear hk); (try clear hi))))
     first
     | fail_if_success clear m1_1
     |(clear m1_1; go_ret
       exact ⟨y5_, y0_⟩)
     first
     | fail_if_success clear m1_2
     |(clear m1_2; go_roundg k1
       case measure => have := HK1.out; omega
       case rel => exact ⟨(tx3), (wrap64 (x5_1 + 1)), y6_, y6_, H', ⟨y91_⟩, ⟨y0_⟩⟩)
     first
     | fail_if_success clear m1_3
     |(clear m1_3; go_wp2
       go_ret
       exact ⟨y5_, y0_⟩))

/-! ### laws_szGraph: function 10 -/
def laws_szGraph.f (k : Nat) (l0_0 : List (S100)) (l0_1 : List (S103)) (a1 : Int) : Option (Int) := (laws_szGNodeS.f k l0_0 a1).bind fun t110 => (if t110 < 0 then (some (-1)) else ((laws_szFlowS.f k l0_1 t110).bind fun t111 => (if t111 < 0 then (some (-1)) else (some t111))))
theorem laws_szGraph.mono : ∀ a0 a1 a2 k, LeO (laws_szGraph.f k a0 a1 a2) (laws_szGraph.f (k + 1) a0 a1 a2) := by
  intro a0 a1 a2 k
  unfold laws_szGraph.f
  repeat' (with_reducible first | exact laws_szFlowS.mono _ _ _ | exact laws_szGNodeS.mono _ _ _ | exact LeO.refl _ | exact LeO.none _ | refine LeO.ite ?_ ?_ | refine LeO.bind ?_ (fun _ => ?_))
set_option maxHeartbeats 8000000 in
set_option maxRecDepth 100000 in
theorem laws_szGraph.calls (k : Nat) (A0_0 : Option Addr) (c0_0 : Nat) (l0_0 : List (S100)) (A0_1 : Option Addr) (c0_1 : Nat) (l0_1 : List (S103)) (a1 : Int) (r : Int) (w : World) (hr0_0 : Kd.C k100 w A0_0 l0_0.length l0_0) (hc0_0 : l0_0.length ≤ c0_0) (hr0_1 : Kd.C k103 w A0_1 l0_1.length l0_1) (hc0_1 : l0_1.length ≤ c0_1) (h : laws_szGraph.f k l0_0 l0_1 a1 = some r) :
    Calls Try.prog 10 #[.agg #[.slice A0_0 l0_0.length c0_0, .slice A0_1 l0_1.length c0_1], .int .i64 a1] w fun e w' => e = .returned (.int .i64 r) ∧ Below w.heap.size w w' := by
 have hu25 := Try.underlying25; have HR0_0 := a_ hr0_0; have HC0_0 := a_ hc0_0; clear hr0_0 hc0_0; have HR0_1 := a_ hr0_1; have HC0_1 := a_ hc0_1; clear hr0_1 hc0_1; have HB := a_ (Below.refl w.heap.size w); have H : ((laws_szGNodeS.f k l0_0 a1).bind fun t110 => (if t110 < 0 then (some (-1)) else ((laws_szFlowS.f k l0_1 t110).bind fun t111 => (if t111 < 0 then (some (-1)) else (some t111))))) = some r := h; clear h; replace H := Option.bind_eq_some_iff.mp H; obtain ⟨tx0, Ay0, H⟩ := H; have Ax0 := a_ Ay0; clear Ay0; by_cases cx1 : tx0 < 0; rw [if_pos cx1] at H; have cx1b0 : decide (tx0 < 0) = true := decide_eq_true cx1; clear cx1; obtain rfl := Option.some.inj H; have m0_0 := t_; rotate_left; rw [if_neg cx1] at H; have cx1b0 : decide (tx0 < 0) = false := decide_eq_false cx1; clear cx1; replace H := Option.bind_eq_some_iff.mp H; obtain ⟨tx2, Ay2, H⟩ := H; have Ax2 := a_ Ay2; clear Ay2; by_cases cx3 : tx2 < 0; rw [if_pos cx3] at H; have cx3b0 : decide (tx2 < 0) = true := decide_eq_true cx3; clear cx3; obtain rfl := Option.some.inj H; have m0_1 := t_; rotate_left; rw [if_neg cx3] at H; have cx3b0 : decide (tx2 < 0) = false := decide_eq_false cx3; clear cx3; obtain rfl := Option.some.inj H; have m0_1 := t_; rotate_left
 all_goals (
  go_enter Try.func10, Try.ntmps10
  go_wp2_with (first | ((with_reducible refine gate_dst (N := 2) rfl ?_); refine box_event zr_ (N := 2) zr_ (cs := #[.slice A0_0 l0_0.length c0_0, .slice A0_1 l0_1.length c0_1]) (t := 25) zs_ ?_; intro gb9227632 hg w9132656 hbox hb; have n0_ := a_ (below_step y0_ hb); have n1_ := a_ (hbox); have n2_ := a_ ((by rw [hg]; exact (below_size y0_) : w.heap.size ≤ gb9227632)); have n3_ := a_ ((by rw [hg]; exact (below_size y0_) : w.heap.size ≤ gb9227632)); clear HB; have HB := n0_; have BK9227632 := n1_; have GW9227632 := n2_; have GE9227632 := n3_; clear n0_ n1_ n2_ n3_; clear hb hbox hg; have hcz9680945_0 : w9132656.cell? ⟨gb9227632, 0, none⟩ = some (.slice A0_0 l0_0.length c0_0) := (blk_cell BK9227632.out 0).trans rfl; have hcz9680945_1 : w9132656.cell? ⟨gb9227632, 1, none⟩ = some (.slice A0_1 l0_1.length c0_1) := (blk_cell BK9227632.out 1).trans rfl; have hfz9680945_0 := blk_frozen BK9227632.out 0; have hfz9680945_1 := blk_frozen BK9227632.out 1) | (have mkq_ := m0_0; clear mkq_; (with_reducible refine gate_callee (f := 36) rfl ?_); refine gc_ 36 8 Try.func36 #[.slice A0_0 l0_0.length c0_0, .int .i64 a1] ?_; (with_reducible refine (laws_szGNodeS.calls k _ _ l0_0 a1 tx0 _ ?side1 ?side2 Ax0.out).mono ?_); (case side1 => repeat (first | exact (Kd.C_below HR0_0.out HB.out) | (with_reducible refine Kd.C_alloc ?_ _) | (with_reducible refine Kd.C_drewN ?_ _) | (with_reducible refine Kd.C_drew ?_))); (case side2 => exact HC0_0.out); rintro e w9535913 ⟨rfl, hb⟩; refine ⟨_, rfl, ?_⟩; have n0_ := a_ (blk_below (g := gb9227632) (o := .cells #[.slice A0_0 l0_0.length c0_0, .slice A0_1 l0_1.length c0_1] 25 (0, 0)) y1_ hb); have n1_ := a_ (below_step y2_ hb); clear BK9227632; clear HB; have BK9227632 := n0_; have HB := n1_; clear n0_ n1_; (try clear hb); (try clear hb9834510); (try clear hk); (try clear hi)) | (have mkq_ := m0_1; clear mkq_; (with_reducible refine gate_callee (f := 36) rfl ?_); refine gc_ 36 8 Try.func36 #[.slice A0_0 l0_0.length c0_0, .int .i64 a1] ?_; (with_reducible refine (laws_szGNodeS.calls k _ _ l0_0 a1 tx0 _ ?side1 ?side2 Ax0.out).mono ?_); (case side1 => repeat (first | exact (Kd.C_below HR0_0.out HB.out) | (with_reducible refine Kd.C_alloc ?_ _) | (with_reducible refine Kd.C_drewN ?_ _) | (with_reducible refine Kd.C_drew ?_))); (case side2 => exact HC0_0.out); rintro e w9535913 ⟨rfl, hb⟩; refine ⟨_, rfl, ?_⟩; have n0_ := a_ (blk_below (g := gb9227632) (o := .cells #[.slice A0_0 l0_0.length c0_0, .slice A0_1 l0_1.length c0_1] 25 (0, 0)) y1_ hb); have n1_ := a_ (below_step y2_ hb); clear BK9227632; clear HB; have BK9227632 := n0_; have HB := n1_; clear n0_ n1_; (try clear hb); (try clear hb9834510); (try clear hk); (try clear hi); have hcz9497107_0 : w9535913.cell? ⟨gb9227632, 0, none⟩ = some (.slice A0_0 l0_0.length c0_0) := (blk_cell BK9227632.out 0).trans rfl; have hcz9497107_1 : w9535913.cell? ⟨gb9227632, 1, none⟩ = some (.slice A0_1 l0_1.length c0_1) := (blk_cell BK9227632.out 1).trans rfl; have hfz9497107_0 := blk_frozen BK9227632.out 0; have hfz9497107_1 := blk_frozen BK9227632.out 1) | ((with_reducible refine gate_callee (f := 37) rfl ?_); refine gc_ 37 14 Try.func37 #[.slice A0_1 l0_1.length c0_1, .int .i64 tx0] ?_; (with_reducible refine (laws_szFlowS.calls k _ _ l0_1 tx0 tx2 _ ?side1 ?side2 Ax2.out).mono ?_); (case side1 => repeat (first | exact (Kd.C_below HR0_1.out HB.out) | (with_reducible refine Kd.C_alloc ?_ _) | (with_reducible refine Kd.C_drewN ?_ _) | (with_reducible refine Kd.C_drew ?_))); (case side2 => exact HC0_1.out); rintro e w9801401 ⟨rfl, hb⟩; refine ⟨_, rfl, ?_⟩; have n0_ := a_ (blk_below (g := gb9227632) (o := .cells #[.slice A0_0 l0_0.length c0_0, .slice A0_1 l0_1.length c0_1] 25 (0, 0)) y1_ hb); have n1_ := a_ (below_step y2_ hb); clear BK9227632; clear HB; have BK9227632 := n0_; have HB := n1_; clear n0_ n1_; (try clear hb); (try clear hb9834510); (try clear hk); (try clear hi)))
  go_ret
  exact ⟨y5_, y2_⟩)

/-! ### spec_l1In: function 74 -/
def spec_l1In.f (a0 : Int) (a1 : Int) (a2 : Int) : Option (Bool) := if a0 ≥ a1 then (some (decide (a0 ≤ a2))) else (some false)
set_option maxHeartbeats 8000000 in
set_option maxRecDepth 100000 in
theorem spec_l1In.calls (a0 : Int) (a1 : Int) (a2 : Int) (r : Bool) (w : World) (h : spec_l1In.f a0 a1 a2 = some r) :
    Calls Try.prog 74 #[.int .i64 a0, .int .i64 a1, .int .i64 a2] w fun e w' => e = .returned (.bool r) ∧ Drawn0 w w' := by
 have H : (if a0 ≥ a1 then (some (decide (a0 ≤ a2))) else (some false)) = some r := h; clear h; by_cases c4 : a0 ≥ a1
 ·rw [if_pos c4] at H; have c4b0 : decide (a1 ≤ a0) = true := decide_eq_true c4; clear c4; obtain rfl := Option.some.inj H; go_enter Try.func74, Try.ntmps74
  go_wp2
  go_ret
  exact ⟨y6_, y15_⟩
 ·rw [if_neg c4] at H; have c4b0 : decide (a1 ≤ a0) = false := decide_eq_false c4; clear c4; obtain rfl := Option.some.inj H; go_enter Try.func74, Try.ntmps74
  go_wp2
  go_ret
  exact ⟨y6_, y15_⟩

end Go.Proofs.Ytcpcenhpmcfmjaa.F
