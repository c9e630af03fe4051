-- Written by a program of this session's own (xp.py) for this seat.
import Derived.Test.YtbjakfnfjndccaaTZ
import Derived.Test.YtbjakfnfjndccaaT0
namespace Go.Proofs.Ytbjakfnfjndccaa.T
open Go.RowKit Go.Proofs.YtbjakfnfjndccaaW.PrintWords Go.Proofs.YtbjakfnfjndccaaW.PrintLast Go.Proofs.YtbjakfnfjndccaaW.PrintMore
attribute [local go_sem] Instr.field asAgg
attribute [local go_sem] max2_int min2_int max_two min_two max_three min_three max_four min_four   -- for this text's walks alone
set_option linter.unusedVariables false
set_option linter.unusedSimpArgs false

/-! ### laws_szAttr: function 54 -/
def laws_szAttr.f (a0_0 : ByteArray) (a0_1 : ByteArray) (a1 : Int) : Option (Int) := if (wrap64 (a1 - (a0_0.size : Int))) < 0 then (some (-1)) else (if (wrap64 ((wrap64 (a1 - (a0_0.size : Int))) - (a0_1.size : Int))) < 0 then (some (-1)) else (some (wrap64 ((wrap64 (a1 - (a0_0.size : Int))) - (a0_1.size : Int)))))
set_option maxHeartbeats 8000000 in
set_option maxRecDepth 100000 in
theorem laws_szAttr.calls (a0_0 : ByteArray) (a0_1 : ByteArray) (a1 : Int) (r : Int) (w : World) (h : laws_szAttr.f a0_0 a0_1 a1 = some r) :
    Calls Try.prog 54 #[.agg #[.string a0_0, .string a0_1], .int .i64 a1] w fun e w' => e = .returned (.int .i64 r) ∧ Below w.heap.size w w' := by
 have hu84 := Try.underlying84; have HB := a_ (Below.refl w.heap.size w); have H : (if (wrap64 (a1 - (a0_0.size : Int))) < 0 then (some (-1)) else (if (wrap64 ((wrap64 (a1 - (a0_0.size : Int))) - (a0_1.size : Int))) < 0 then (some (-1)) else (some (wrap64 ((wrap64 (a1 - (a0_0.size : Int))) - (a0_1.size : Int)))))) = some r := h; clear h; by_cases cx0 : (wrap64 (a1 - (a0_0.size : Int))) < 0; rw [if_pos cx0] at H; have cx0b0 : decide ((wrap64 (a1 - (a0_0.size : Int))) < 0) = true := decide_eq_true cx0; clear cx0; obtain rfl := Option.some.inj H; rotate_left; rw [if_neg cx0] at H; have cx0b0 : decide ((wrap64 (a1 - (a0_0.size : Int))) < 0) = false := decide_eq_false cx0; clear cx0; by_cases cx1 : (wrap64 ((wrap64 (a1 - (a0_0.size : Int))) - (a0_1.size : Int))) < 0; rw [if_pos cx1] at H; have cx1b0 : decide ((wrap64 ((wrap64 (a1 - (a0_0.size : Int))) - (a0_1.size : Int))) < 0) = true := decide_eq_true cx1; clear cx1; obtain rfl := Option.some.inj H; rotate_left; rw [if_neg cx1] at H; have cx1b0 : decide ((wrap64 ((wrap64 (a1 - (a0_0.size : Int))) - (a0_1.size : Int))) < 0) = false := decide_eq_false cx1; clear cx1; obtain rfl := Option.some.inj H; rotate_left
 all_goals (
  go_enter Try.func54, Try.ntmps54
  go_wp2_with (first | ((with_reducible refine gate_dst (N := 2) rfl ?_); refine box_event zr_ (N := 2) zr_ (cs := #[.string a0_0, .string a0_1]) (t := 84) zs_ ?_; intro gb9101610 hg w9852451 hbox hb; have n0_ := a_ (below_step y0_ hb); have n1_ := a_ (hbox); have n2_ := a_ ((by rw [hg]; exact (below_size y0_) : w.heap.size ≤ gb9101610)); have n3_ := a_ ((by rw [hg]; exact (below_size y0_) : w.heap.size ≤ gb9101610)); clear HB; have HB := n0_; have BK9101610 := n1_; have GW9101610 := n2_; have GE9101610 := n3_; clear n0_ n1_ n2_ n3_; clear hb hbox hg; have hcz9691442_0 : w9852451.cell? ⟨gb9101610, 0, none⟩ = some (.string a0_0) := (blk_cell BK9101610.out 0).trans rfl; have hcz9691442_1 : w9852451.cell? ⟨gb9101610, 1, none⟩ = some (.string a0_1) := (blk_cell BK9101610.out 1).trans rfl; have hfz9691442_0 := blk_frozen BK9101610.out 0; have hfz9691442_1 := blk_frozen BK9101610.out 1))
  go_ret
  exact ⟨y4_, by repeat (first | (with_reducible first | exact HB.out | apply below_alloc | apply pw_below_drewN | apply below_drew1 | refine below_set ?_ GE9101610.out) | exact HB.out)⟩)

/-! ### laws_szAttrS: function 42 -/
def laws_szAttrS.l0 : Nat → List (S84) → Int → Int → Option (Int)
  | 0, _, _, _ => none
  | k + 1, x0, x1, x5 => if x5 < (x0.length : Int) then (if 0 ≤ x5 then ((laws_szAttr.f ((rd_T84 x0 x5).f0) ((rd_T84 x0 x5).f1) x1).bind fun t103 => (if t103 < 0 then (some (-1)) else (laws_szAttrS.l0 k x0 t103 (wrap64 (x5 + 1))))) else (none)) else (some x1)
def laws_szAttrS.f (k : Nat) (l0 : List (S84)) (a1 : Int) : Option (Int) := if (wrap64 (a1 - (l0.length : Int))) < 0 then (some (-1)) else (laws_szAttrS.l0 k l0 (wrap64 (a1 - (l0.length : Int))) 0)
theorem laws_szAttrS.mono_l : ∀ k, (∀ y0 y1 y2, LeO (laws_szAttrS.l0 k y0 y1 y2) (laws_szAttrS.l0 (k + 1) y0 y1 y2))
  | 0 => fun _ _ _ r h => by simp [laws_szAttrS.l0] at h
  | k + 1 => by
    have ih0 := laws_szAttrS.mono_l k
    · intro y0 y1 y2
      unfold laws_szAttrS.l0
      repeat' (with_reducible first | exact ih0 _ _ _ | exact LeO.refl _ | exact LeO.none _ | refine LeO.ite ?_ ?_ | refine LeO.bind ?_ (fun _ => ?_))
theorem laws_szAttrS.mono : ∀ a0 a1 k, LeO (laws_szAttrS.f k a0 a1) (laws_szAttrS.f (k + 1) a0 a1) := by
  intro a0 a1 k
  have ih0 := laws_szAttrS.mono_l k
  unfold laws_szAttrS.f
  repeat' (with_reducible first | exact ih0 _ _ _ | exact LeO.refl _ | exact LeO.none _ | refine LeO.ite ?_ ?_ | refine LeO.bind ?_ (fun _ => ?_))
set_option maxHeartbeats 8000000 in
set_option maxRecDepth 100000 in
theorem laws_szAttrS.calls (k : Nat) (A0 : Option Addr) (c0 : Nat) (l0 : List (S84)) (a1 : Int) (r : Int) (w : World) (hr0 : Kd.C k84 w A0 l0.length l0) (hc0 : l0.length ≤ c0) (h : laws_szAttrS.f k l0 a1 = some r) :
    Calls Try.prog 42 #[.slice A0 l0.length c0, .int .i64 a1] w fun e w' => e = .returned (.int .i64 r) ∧ Below w.heap.size w w' := by
 have hu84 := Try.underlying84; have HR0 := a_ hr0; have HC0 := a_ hc0; clear hr0 hc0; have HB := a_ (Below.refl w.heap.size w); have H : (if (wrap64 (a1 - (l0.length : Int))) < 0 then (some (-1)) else (laws_szAttrS.l0 k l0 (wrap64 (a1 - (l0.length : Int))) 0)) = some r := h; clear h; by_cases cx0 : (wrap64 (a1 - (l0.length : Int))) < 0
 ·rw [if_pos cx0] at H; have cx0b0 : decide ((wrap64 (a1 - (l0.length : Int))) < 0) = true := decide_eq_true cx0; clear cx0; obtain rfl := Option.some.inj H; go_enter Try.func42, Try.ntmps42
  go_wp2
  go_ret
  exact ⟨y4_, y0_⟩
 ·rw [if_neg cx0] at H; have cx0b0 : decide ((wrap64 (a1 - (l0.length : Int))) < 0) = false := decide_eq_false cx0; clear cx0; have H' := a_ H; clear H; go_enter Try.func42, Try.ntmps42
  go_wp2
  go_loopg [1, 5] k (fun kq v1 v5 w' => ∃ (x1_1 : Int) (x5_1 : Int), v1 = .int .i64 x1_1 ∧ v5 = .int .i64 x5_1 ∧ Aside0 (laws_szAttrS.l0 kq l0 x1_1 x5_1 = some r) ∧ Aside0 (kq ≤ k) ∧ Aside0 (Below w.heap.size w w'))
  case atStart => exact ⟨(wrap64 (a1 - (l0.length : Int))), (0), y3_, y3_, H', ⟨Nat.le_refl _⟩, ⟨y0_⟩⟩
  case round =>
   clear H'; (try clear cx0); (try clear cx0b0); obtain ⟨x1_1, x5_1, rfl, rfl, HA, HK1, HB⟩ := hrel; cases gk with
   | zero => exact absurd HA.out (by simp [laws_szAttrS.l0])
   | succ k1 =>
    have H := HA.out; clear HA; simp only [laws_szAttrS.l0] at H; by_cases cx1 : x5_1 < (l0.length : Int); rw [if_pos cx1] at H; have cx1b0 : decide (x5_1 < (l0.length : Int)) = true := decide_eq_true cx1; clear cx1; by_cases cx2 : 0 ≤ x5_1; rw [if_pos cx2] at H; have cx2b0 : decide (0 ≤ x5_1) = true := decide_eq_true cx2; clear cx2; replace H := Option.bind_eq_some_iff.mp H; obtain ⟨tx3, Ay3, H⟩ := H; have Ax3 := a_ Ay3; clear Ay3; by_cases cx4 : tx3 < 0; rw [if_pos cx4] at H; have cx4b0 : decide (tx3 < 0) = true := decide_eq_true cx4; clear cx4; obtain rfl := Option.some.inj H; have m1_0 := t_; have m1_1 := t_; rotate_left; rw [if_neg cx4] at H; have cx4b0 : decide (tx3 < 0) = false := decide_eq_false cx4; clear cx4; have H' := a_ H; clear H; have m1_0 := t_; have m1_2 := t_; rotate_left
    ·rw [if_neg cx2] at H; exact absurd H y100_
    rw [if_neg cx1] at H; have cx1b0 : decide (x5_1 < (l0.length : Int)) = false := decide_eq_false cx1; clear cx1; obtain rfl := Option.some.inj H; have m1_3 := t_; rotate_left
    all_goals (
     first
     | fail_if_success clear m1_0
     |(clear m1_0; have p9922068 : 0 ≤ (x5_1 : Int) := of_decide_eq_true y2_; have q9922068 : x5_1 < (l0.length : Int) := of_decide_eq_true y2_; obtain ⟨ad9922068, e9922068, hx9922068_0, hx9922068_1⟩ := at_T84 HR0.out x5_1 p9922068 q9922068; cases e9922068; replace hx9922068_0 := cT_ HB.out hx9922068_0; replace hx9922068_1 := cT_ HB.out hx9922068_1; replace p9922068 := eq_true p9922068; replace q9922068 := eq_true q9922068; go_wp2_with (first | ((with_reducible refine gate_callee (f := 54) rfl ?_); refine gc_ 54 23 Try.func54 #[.agg #[.string ((rd_T84 l0 x5_1).f0), .string ((rd_T84 l0 x5_1).f1)], .int .i64 x1_1] ?_; (with_reducible refine (laws_szAttr.calls ((rd_T84 l0 x5_1).f0) ((rd_T84 l0 x5_1).f1) x1_1 tx3 _ Ax3.out).mono ?_); rintro e w9266094 ⟨rfl, hb⟩; refine ⟨_, rfl, ?_⟩; have n0_ := a_ (below_step y0_ hb); clear HB; have HB := n0_; clear n0_; (try clear hb); (try clear hb9993342); (try clear hk); (try clear hi))))
     first
     | fail_if_success clear m1_1
     |(clear m1_1; go_ret
       exact ⟨y4_, y0_⟩)
     first
     | fail_if_success clear m1_2
     |(clear m1_2; go_roundg k1
       case measure => have := HK1.out; omega
       case rel => exact ⟨(tx3), (wrap64 (x5_1 + 1)), y3_, y3_, H', ⟨y48_⟩, ⟨y0_⟩⟩)
     first
     | fail_if_success clear m1_3
     |(clear m1_3; go_wp2
       go_ret
       exact ⟨y4_, y0_⟩))

/-! ### laws_szElem: function 20 -/
def laws_szElem.f (k : Nat) (a0_0 : ByteArray) (a0_1 : Int) (l0_2 : List (S84)) (a1 : Int) : Option (Int) := if (wrap64 (a1 - (a0_0.size : Int))) < 0 then (some (-1)) else ((laws_szAttrS.f k l0_2 (wrap64 (a1 - (a0_0.size : Int)))).bind fun t105 => (if t105 < 0 then (some (-1)) else (some t105)))
theorem laws_szElem.mono : ∀ a0 a1 a2 a3 k, LeO (laws_szElem.f k a0 a1 a2 a3) (laws_szElem.f (k + 1) a0 a1 a2 a3) := by
  intro a0 a1 a2 a3 k
  unfold laws_szElem.f
  repeat' (with_reducible first | exact laws_szAttrS.mono _ _ _ | exact LeO.refl _ | exact LeO.none _ | refine LeO.ite ?_ ?_ | refine LeO.bind ?_ (fun _ => ?_))
set_option maxHeartbeats 8000000 in
set_option maxRecDepth 100000 in
theorem laws_szElem.calls (k : Nat) (a0_0 : ByteArray) (a0_1 : Int) (A0_2 : Option Addr) (c0_2 : Nat) (l0_2 : List (S84)) (a1 : Int) (r : Int) (w : World) (hr0_2 : Kd.C k84 w A0_2 l0_2.length l0_2) (hc0_2 : l0_2.length ≤ c0_2) (h : laws_szElem.f k a0_0 a0_1 l0_2 a1 = some r) :
    Calls Try.prog 20 #[.agg #[.string a0_0, .int .i64 a0_1, .slice A0_2 l0_2.length c0_2], .int .i64 a1] w fun e w' => e = .returned (.int .i64 r) ∧ Below w.heap.size w w' := by
 have hu45 := Try.underlying45; have HR0_2 := a_ hr0_2; have HC0_2 := a_ hc0_2; clear hr0_2 hc0_2; have HB := a_ (Below.refl w.heap.size w); have H : (if (wrap64 (a1 - (a0_0.size : Int))) < 0 then (some (-1)) else ((laws_szAttrS.f k l0_2 (wrap64 (a1 - (a0_0.size : Int)))).bind fun t105 => (if t105 < 0 then (some (-1)) else (some t105)))) = some r := h; clear h; by_cases cx0 : (wrap64 (a1 - (a0_0.size : Int))) < 0; rw [if_pos cx0] at H; have cx0b0 : decide ((wrap64 (a1 - (a0_0.size : Int))) < 0) = true := decide_eq_true cx0; clear cx0; obtain rfl := Option.some.inj H; rotate_left; rw [if_neg cx0] at H; have cx0b0 : decide ((wrap64 (a1 - (a0_0.size : Int))) < 0) = false := decide_eq_false cx0; clear cx0; replace H := Option.bind_eq_some_iff.mp H; obtain ⟨tx1, Ay1, H⟩ := H; have Ax1 := a_ Ay1; clear Ay1; by_cases cx2 : tx1 < 0; rw [if_pos cx2] at H; have cx2b0 : decide (tx1 < 0) = true := decide_eq_true cx2; clear cx2; obtain rfl := Option.some.inj H; rotate_left; rw [if_neg cx2] at H; have cx2b0 : decide (tx1 < 0) = false := decide_eq_false cx2; clear cx2; obtain rfl := Option.some.inj H; rotate_left
 all_goals (
  go_enter Try.func20, Try.ntmps20
  go_wp2_with (first | ((with_reducible refine gate_dst (N := 2) rfl ?_); refine box_event zr_ (N := 2) zr_ (cs := #[.string a0_0, .int .i64 a0_1, .slice A0_2 l0_2.length c0_2]) (t := 45) zs_ ?_; intro gb9353269 hg w9787341 hbox hb; have n0_ := a_ (below_step y0_ hb); have n1_ := a_ (hbox); have n2_ := a_ ((by rw [hg]; exact (below_size y0_) : w.heap.size ≤ gb9353269)); have n3_ := a_ ((by rw [hg]; exact (below_size y0_) : w.heap.size ≤ gb9353269)); clear HB; have HB := n0_; have BK9353269 := n1_; have GW9353269 := n2_; have GE9353269 := n3_; clear n0_ n1_ n2_ n3_; clear hb hbox hg; have hcz9958109_0 : w9787341.cell? ⟨gb9353269, 0, none⟩ = some (.string a0_0) := (blk_cell BK9353269.out 0).trans rfl; have hcz9958109_1 : w9787341.cell? ⟨gb9353269, 1, none⟩ = some (.int .i64 a0_1) := (blk_cell BK9353269.out 1).trans rfl; have hcz9958109_2 : w9787341.cell? ⟨gb9353269, 2, none⟩ = some (.slice A0_2 l0_2.length c0_2) := (blk_cell BK9353269.out 2).trans rfl; have hfz9958109_0 := blk_frozen BK9353269.out 0; have hfz9958109_1 := blk_frozen BK9353269.out 1; have hfz9958109_2 := blk_frozen BK9353269.out 2) | ((with_reducible refine gate_callee (f := 42) rfl ?_); refine gc_ 42 15 Try.func42 #[.slice A0_2 l0_2.length c0_2, .int .i64 (wrap64 (a1 - (a0_0.size : Int)))] ?_; (with_reducible refine (laws_szAttrS.calls k _ _ l0_2 (wrap64 (a1 - (a0_0.size : Int))) tx1 _ ?side1 ?side2 Ax1.out).mono ?_); (case side1 => repeat (first | exact (Kd.C_below HR0_2.out HB.out) | (with_reducible refine Kd.C_alloc ?_ _) | (with_reducible refine Kd.C_drewN ?_ _) | (with_reducible refine Kd.C_drew ?_))); (case side2 => exact HC0_2.out); rintro e w9052461 ⟨rfl, hb⟩; refine ⟨_, rfl, ?_⟩; have n0_ := a_ (blk_below (g := gb9353269) (o := .cells #[.string a0_0, .int .i64 a0_1, .slice A0_2 l0_2.length c0_2] 45 (0, 0)) (by (with_reducible repeat (first | refine blk_drewN ?_ _ | refine blk_drew ?_ | refine blk_alloc ?_ _)); exact BK9353269.out) hb); have n1_ := a_ (below_step (by repeat (first | (with_reducible first | exact HB.out | apply below_alloc | apply pw_below_drewN | apply below_drew1 | refine below_set ?_ GE9353269.out) | exact HB.out)) hb); clear BK9353269; clear HB; have BK9353269 := n0_; have HB := n1_; clear n0_ n1_; (try clear hb); (try clear hb9630195); (try clear hk); (try clear hi)))
  go_ret
  exact ⟨y4_, by repeat (first | (with_reducible first | exact HB.out | apply below_alloc | apply pw_below_drewN | apply below_drew1 | refine below_set ?_ GE9353269.out) | exact HB.out)⟩)

/-! ### laws_szElemS: function 6 -/
def laws_szElemS.l0 : Nat → List (S45) → Int → Int → Option (Int)
  | 0, _, _, _ => none
  | k + 1, x0, x1, x5 => if x5 < (x0.length : Int) then (if 0 ≤ x5 then ((laws_szElem.f k ((rd_T45 x0 x5).f0) ((rd_T45 x0 x5).f1) ((rd_T45 x0 x5).f2) x1).bind fun t107 => (if t107 < 0 then (some (-1)) else (laws_szElemS.l0 k x0 t107 (wrap64 (x5 + 1))))) else (none)) else (some x1)
def laws_szElemS.f (k : Nat) (l0 : List (S45)) (a1 : Int) : Option (Int) := if (wrap64 (a1 - (l0.length : Int))) < 0 then (some (-1)) else (laws_szElemS.l0 k l0 (wrap64 (a1 - (l0.length : Int))) 0)
theorem laws_szElemS.mono_l : ∀ k, (∀ y0 y1 y2, LeO (laws_szElemS.l0 k y0 y1 y2) (laws_szElemS.l0 (k + 1) y0 y1 y2))
  | 0 => fun _ _ _ r h => by simp [laws_szElemS.l0] at h
  | k + 1 => by
    have ih0 := laws_szElemS.mono_l k
    · intro y0 y1 y2
      unfold laws_szElemS.l0
      repeat' (with_reducible first | exact ih0 _ _ _ | exact laws_szElem.mono _ _ _ _ _ | exact LeO.refl _ | exact LeO.none _ | refine LeO.ite ?_ ?_ | refine LeO.bind ?_ (fun _ => ?_))
theorem laws_szElemS.mono : ∀ a0 a1 k, LeO (laws_szElemS.f k a0 a1) (laws_szElemS.f (k + 1) a0 a1) := by
  intro a0 a1 k
  have ih0 := laws_szElemS.mono_l k
  unfold laws_szElemS.f
  repeat' (with_reducible first | exact ih0 _ _ _ | exact laws_szElem.mono _ _ _ _ _ | exact LeO.refl _ | exact LeO.none _ | refine LeO.ite ?_ ?_ | refine LeO.bind ?_ (fun _ => ?_))
set_option maxHeartbeats 8000000 in
set_option maxRecDepth 100000 in
theorem laws_szElemS.calls (k : Nat) (A0 : Option Addr) (c0 : Nat) (l0 : List (S45)) (a1 : Int) (r : Int) (w : World) (hr0 : Kd.C k45 w A0 l0.length l0) (hc0 : l0.length ≤ c0) (h : laws_szElemS.f k l0 a1 = some r) :
    Calls Try.prog 6 #[.slice A0 l0.length c0, .int .i64 a1] w fun e w' => e = .returned (.int .i64 r) ∧ Below w.heap.size w w' := by
 have hu45 := Try.underlying45; have HR0 := a_ hr0; have HC0 := a_ hc0; clear hr0 hc0; have HB := a_ (Below.refl w.heap.size w); have H : (if (wrap64 (a1 - (l0.length : Int))) < 0 then (some (-1)) else (laws_szElemS.l0 k l0 (wrap64 (a1 - (l0.length : Int))) 0)) = some r := h; clear h; by_cases cx0 : (wrap64 (a1 - (l0.length : Int))) < 0
 ·rw [if_pos cx0] at H; have cx0b0 : decide ((wrap64 (a1 - (l0.length : Int))) < 0) = true := decide_eq_true cx0; clear cx0; obtain rfl := Option.some.inj H; go_enter Try.func6, Try.ntmps6
  go_wp2
  go_ret
  exact ⟨y4_, y0_⟩
 ·rw [if_neg cx0] at H; have cx0b0 : decide ((wrap64 (a1 - (l0.length : Int))) < 0) = false := decide_eq_false cx0; clear cx0; have H' := a_ H; clear H; go_enter Try.func6, Try.ntmps6
  go_wp2
  go_loopg [1, 5] k (fun kq v1 v5 w' => ∃ (x1_1 : Int) (x5_1 : Int), v1 = .int .i64 x1_1 ∧ v5 = .int .i64 x5_1 ∧ Aside0 (laws_szElemS.l0 kq l0 x1_1 x5_1 = some r) ∧ Aside0 (kq ≤ k) ∧ Aside0 (Below w.heap.size w w'))
  case atStart => exact ⟨(wrap64 (a1 - (l0.length : Int))), (0), y3_, y3_, H', ⟨Nat.le_refl _⟩, ⟨y0_⟩⟩
  case round =>
   clear H'; (try clear cx0); (try clear cx0b0); obtain ⟨x1_1, x5_1, rfl, rfl, HA, HK1, HB⟩ := hrel; cases gk with
   | zero => exact absurd HA.out (by simp [laws_szElemS.l0])
   | succ k1 =>
    have H := HA.out; clear HA; simp only [laws_szElemS.l0] at H; by_cases cx1 : x5_1 < (l0.length : Int); rw [if_pos cx1] at H; have cx1b0 : decide (x5_1 < (l0.length : Int)) = true := decide_eq_true cx1; clear cx1; by_cases cx2 : 0 ≤ x5_1; rw [if_pos cx2] at H; have cx2b0 : decide (0 ≤ x5_1) = true := decide_eq_true cx2; clear cx2; replace H := Option.bind_eq_some_iff.mp H; obtain ⟨tx3, Ay3, H⟩ := H; have Ax3 := a_ Ay3; clear Ay3; by_cases cx4 : tx3 < 0; rw [if_pos cx4] at H; have cx4b0 : decide (tx3 < 0) = true := decide_eq_true cx4; clear cx4; obtain rfl := Option.some.inj H; have m1_0 := t_; have m1_1 := t_; rotate_left; rw [if_neg cx4] at H; have cx4b0 : decide (tx3 < 0) = false := decide_eq_false cx4; clear cx4; have H' := a_ H; clear H; have m1_0 := t_; have m1_2 := t_; rotate_left
    ·rw [if_neg cx2] at H; exact absurd H y100_
    rw [if_neg cx1] at H; have cx1b0 : decide (x5_1 < (l0.length : Int)) = false := decide_eq_false cx1; clear cx1; obtain rfl := Option.some.inj H; have m1_3 := t_; rotate_left
    all_goals (
     first
     | fail_if_success clear m1_0
     |(clear m1_0; have p9922068 : 0 ≤ (x5_1 : Int) := of_decide_eq_true y2_; have q9922068 : x5_1 < (l0.length : Int) := of_decide_eq_true y2_; obtain ⟨ad9922068, A106_2, c106_2, e9922068, hx9922068_0, hx9922068_1, hx9922068_2, hl9922068_2, hi106_2⟩ := at_T45 HR0.out x5_1 p9922068 q9922068; cases e9922068; replace hx9922068_0 := cT_ HB.out hx9922068_0; replace hx9922068_1 := cT_ HB.out hx9922068_1; replace hx9922068_2 := cT_ HB.out hx9922068_2; have HR106_2 := a_ hi106_2; have HC106_2 := a_ hl9922068_2; clear hi106_2 hl9922068_2; replace p9922068 := eq_true p9922068; replace q9922068 := eq_true q9922068; go_wp2_with (first | ((with_reducible refine gate_callee (f := 20) rfl ?_); refine gc_ 20 23 Try.func20 #[.agg #[.string ((rd_T45 l0 x5_1).f0), .int .i64 ((rd_T45 l0 x5_1).f1), .slice A106_2 ((rd_T45 l0 x5_1).f2).length c106_2], .int .i64 x1_1] ?_; (with_reducible refine (laws_szElem.calls k1 ((rd_T45 l0 x5_1).f0) ((rd_T45 l0 x5_1).f1) _ _ ((rd_T45 l0 x5_1).f2) x1_1 tx3 _ ?side1 ?side2 Ax3.out).mono ?_); (case side1 => repeat (first | exact (Kd.C_below HR106_2.out HB.out) | (with_reducible refine Kd.C_alloc ?_ _) | (with_reducible refine Kd.C_drewN ?_ _) | (with_reducible refine Kd.C_drew ?_))); (case side2 => exact HC106_2.out); rintro e w9654574 ⟨rfl, hb⟩; refine ⟨_, rfl, ?_⟩; have n0_ := a_ (below_step y0_ hb); clear HB; have HB := n0_; clear n0_; (try clear hb); (try clear hb9075566); (try clear hk); (try clear hi))))
     first
     | fail_if_success clear m1_1
     |(clear m1_1; go_ret
       exact ⟨y4_, y0_⟩)
     first
     | fail_if_success clear m1_2
     |(clear m1_2; go_roundg k1
       case measure => have := HK1.out; omega
       case rel => exact ⟨(tx3), (wrap64 (x5_1 + 1)), y3_, y3_, H', ⟨y48_⟩, ⟨y0_⟩⟩)
     first
     | fail_if_success clear m1_3
     |(clear m1_3; go_wp2
       go_ret
       exact ⟨y4_, y0_⟩))

/-! ### spec_l1In: function 31 -/
def spec_l1In.f (a0 : Int) (a1 : Int) (a2 : Int) : Option (Bool) := if a0 ≥ a1 then (some (decide (a0 ≤ a2))) else (some false)
set_option maxHeartbeats 8000000 in
set_option maxRecDepth 100000 in
theorem spec_l1In.calls (a0 : Int) (a1 : Int) (a2 : Int) (r : Bool) (w : World) (h : spec_l1In.f a0 a1 a2 = some r) :
    Calls Try.prog 31 #[.int .i64 a0, .int .i64 a1, .int .i64 a2] w fun e w' => e = .returned (.bool r) ∧ Drawn0 w w' := by
 have H : (if a0 ≥ a1 then (some (decide (a0 ≤ a2))) else (some false)) = some r := h; clear h; by_cases c4 : a0 ≥ a1
 ·rw [if_pos c4] at H; have c4b0 : decide (a1 ≤ a0) = true := decide_eq_true c4; clear c4; obtain rfl := Option.some.inj H; go_enter Try.func31, Try.ntmps31
  go_wp2
  go_ret
  exact ⟨y3_, y6_⟩
 ·rw [if_neg c4] at H; have c4b0 : decide (a1 ≤ a0) = false := decide_eq_false c4; clear c4; obtain rfl := Option.some.inj H; go_enter Try.func31, Try.ntmps31
  go_wp2
  go_ret
  exact ⟨y3_, y6_⟩

/-! ### spec_l1Name: function 43 -/
def spec_l1Name.l0 : Nat → ByteArray → Int → Option (Int)
  | 0, _, _ => none
  | k + 1, x0, x3 => if x3 < (x0.size : Int) then (if 0 ≤ x3 then (if (bt x0 x3) < 97 then (some 5) else (if (bt x0 x3) > 122 then (some 5) else (spec_l1Name.l0 k x0 (wrap64 (x3 + 1))))) else (none)) else (if x0.toList = ([] : List UInt8) then (some 5) else (if (x0.size : Int) > 8 then (some 2) else (some 0)))
def spec_l1Name.f (k : Nat) (a0 : ByteArray) : Option (Int) := spec_l1Name.l0 k a0 0
theorem spec_l1Name.mono_l : ∀ k, (∀ y0 y1, LeO (spec_l1Name.l0 k y0 y1) (spec_l1Name.l0 (k + 1) y0 y1))
  | 0 => fun _ _ r h => by simp [spec_l1Name.l0] at h
  | k + 1 => by
    have ih0 := spec_l1Name.mono_l k
    · intro y0 y1
      unfold spec_l1Name.l0
      repeat' (with_reducible first | exact ih0 _ _ | exact LeO.refl _ | exact LeO.none _ | refine LeO.ite ?_ ?_ | refine LeO.bind ?_ (fun _ => ?_))
theorem spec_l1Name.mono : ∀ a0 k, LeO (spec_l1Name.f k a0) (spec_l1Name.f (k + 1) a0) := by
  intro a0 k
  have ih0 := spec_l1Name.mono_l k
  unfold spec_l1Name.f
  repeat' (with_reducible first | exact ih0 _ _ | exact LeO.refl _ | exact LeO.none _ | refine LeO.ite ?_ ?_ | refine LeO.bind ?_ (fun _ => ?_))
set_option maxHeartbeats 8000000 in
set_option maxRecDepth 100000 in
theorem spec_l1Name.calls (k : Nat) (a0 : ByteArray) (r : Int) (w : World) (h : spec_l1Name.f k a0 = some r) :
    Calls Try.prog 43 #[.string a0] w fun e w' => e = .returned (.int .i64 r) ∧ Drawn0 w w' := by
 have H : (spec_l1Name.l0 k a0 0) = some r := h; clear h; have H' := a_ H; clear H; go_enter Try.func43, Try.ntmps43
 go_wp2
 go_loopg [3] k (fun kq v3 w' => ∃ (x3_1 : Int), v3 = .int .i64 x3_1 ∧ Aside0 (spec_l1Name.l0 kq a0 x3_1 = some r) ∧ Aside0 (kq ≤ k) ∧ Drawn0 w w')
 case atStart => exact ⟨(0), y3_, H', ⟨Nat.le_refl _⟩, y6_⟩
 case round =>
  clear H'; obtain ⟨x3_1, rfl, HA, HK1, ⟨m1, rfl⟩⟩ := hrel; cases gk with
  | zero => exact absurd HA.out (by simp [spec_l1Name.l0])
  | succ k1 =>
   have H := HA.out; clear HA; simp only [spec_l1Name.l0] at H; by_cases cx0 : x3_1 < (a0.size : Int); rw [if_pos cx0] at H; have cx0b0 : decide (x3_1 < (a0.size : Int)) = true := decide_eq_true cx0; clear cx0; by_cases cx1 : 0 ≤ x3_1; rw [if_pos cx1] at H; have cx1b0 : decide (0 ≤ x3_1) = true := decide_eq_true cx1; clear cx1; by_cases cx2 : (bt a0 x3_1) < 97; rw [if_pos cx2] at H; have cx2b0 : decide ((bt a0 x3_1) < 97) = true := decide_eq_true cx2; clear cx2; obtain rfl := Option.some.inj H; have m0_0 := t_; have m0_1 := t_; rotate_left; rw [if_neg cx2] at H; have cx2b0 : decide ((bt a0 x3_1) < 97) = false := decide_eq_false cx2; clear cx2; by_cases cx3 : (bt a0 x3_1) > 122; rw [if_pos cx3] at H; have cx3b0 : decide (122 < (bt a0 x3_1)) = true := decide_eq_true cx3; clear cx3; obtain rfl := Option.some.inj H; have m0_0 := t_; have m0_2 := t_; have m0_3 := t_; rotate_left; rw [if_neg cx3] at H; have cx3b0 : decide (122 < (bt a0 x3_1)) = false := decide_eq_false cx3; clear cx3; have H' := a_ H; clear H; have m0_0 := t_; have m0_2 := t_; have m0_4 := t_; rotate_left
   ·rw [if_neg cx1] at H; exact absurd H y100_
   rw [if_neg cx0] at H; have cx0b0 : decide (x3_1 < (a0.size : Int)) = false := decide_eq_false cx0; clear cx0; by_cases cx1 : a0.toList = ([] : List UInt8); rw [if_pos cx1] at H; have cx1b0 : (a0.toList == ([] : List UInt8)) = true := beq_iff_eq.mpr cx1; have cx1b1 : (a0.toList != ([] : List UInt8)) = false := bne_eq_false_iff_eq.mpr cx1; clear cx1; obtain rfl := Option.some.inj H; have m0_5 := t_; rotate_left; rw [if_neg cx1] at H; have cx1b0 : (a0.toList == ([] : List UInt8)) = false := beq_eq_false_iff_ne.mpr cx1; have cx1b1 : (a0.toList != ([] : List UInt8)) = true := bne_iff_ne.mpr cx1; by_cases cx2 : (a0.size : Int) > 8; rw [if_pos cx2] at H; have cx2b0 : decide (8 < (a0.size : Int)) = true := decide_eq_true cx2; have cx2b1 : decide (8 < a0.size) = true := decide_eq_true (by omega); clear cx2; obtain rfl := Option.some.inj H; have m0_6 := t_; rotate_left; rw [if_neg cx2] at H; have cx2b0 : decide (8 < (a0.size : Int)) = false := decide_eq_false cx2; have cx2b1 : decide (8 < a0.size) = false := decide_eq_false (by omega); clear cx2; obtain rfl := Option.some.inj H; have m0_7 := t_; rotate_left
   all_goals (
    first
    | fail_if_success clear m0_0
    |(clear m0_0; have p9922068 : 0 ≤ (x3_1 : Int) := of_decide_eq_true y2_; have q9922068 : x3_1 < (a0.size : Int) := of_decide_eq_true y2_; have hx9922068 := bt_at a0 x3_1; replace p9922068 := eq_true p9922068; replace q9922068 := eq_true q9922068)
    first
    | fail_if_success clear m0_1
    |(clear m0_1; go_wp2
      go_ret
      exact ⟨y3_, y6_⟩)
    first
    | fail_if_success clear m0_2
    |(clear m0_2; have p9548309 : 0 ≤ (x3_1 : Int) := of_decide_eq_true y2_; have q9548309 : x3_1 < (a0.size : Int) := of_decide_eq_true y2_; have hx9548309 := bt_at a0 x3_1; replace p9548309 := eq_true p9548309; replace q9548309 := eq_true q9548309; go_wp2)
    first
    | fail_if_success clear m0_3
    |(clear m0_3; go_ret
      exact ⟨y3_, y6_⟩)
    first
    | fail_if_success clear m0_4
    |(clear m0_4; go_roundg k1
      case measure => have := HK1.out; omega
      case rel => exact ⟨(wrap64 (x3_1 + 1)), y3_, H', ⟨y48_⟩, y6_⟩)
    first
    | fail_if_success clear m0_5
    |(clear m0_5; go_wp2
      go_ret
      exact ⟨y3_, y6_⟩)
    first
    | fail_if_success clear m0_6
    |(clear m0_6; go_wp2
      go_ret
      exact ⟨y3_, y6_⟩)
    first
    | fail_if_success clear m0_7
    |(clear m0_7; go_wp2
      go_ret
      exact ⟨y3_, y6_⟩))

/-! ### spec_l2Line: function 44 -/
def spec_l2Line.l0 : Nat → List (S48) → Int → Int → Option (Bool)
  | 0, _, _, _ => none
  | k + 1, x0, x1, x5 => if x5 ≥ 0 then (if 0 ≤ x1 then (if x1 < (x0.length : Int) then (if x5 = ((rd_T48 x0 x1).f1) then (some true) else (if 0 ≤ x5 then (if x5 < (x0.length : Int) then (spec_l2Line.l0 k x0 x1 ((rd_T48 x0 x5).f1)) else (none)) else (none))) else (none)) else (none)) else (some false)
def spec_l2Line.f (k : Nat) (l0 : List (S48)) (a1 : Int) : Option (Bool) := spec_l2Line.l0 k l0 a1 (wrap64 (a1 - 1))
theorem spec_l2Line.mono_l : ∀ k, (∀ y0 y1 y2, LeO (spec_l2Line.l0 k y0 y1 y2) (spec_l2Line.l0 (k + 1) y0 y1 y2))
  | 0 => fun _ _ _ r h => by simp [spec_l2Line.l0] at h
  | k + 1 => by
    have ih0 := spec_l2Line.mono_l k
    · intro y0 y1 y2
      unfold spec_l2Line.l0
      repeat' (with_reducible first | exact ih0 _ _ _ | exact LeO.refl _ | exact LeO.none _ | refine LeO.ite ?_ ?_ | refine LeO.bind ?_ (fun _ => ?_))
theorem spec_l2Line.mono : ∀ a0 a1 k, LeO (spec_l2Line.f k a0 a1) (spec_l2Line.f (k + 1) a0 a1) := by
  intro a0 a1 k
  have ih0 := spec_l2Line.mono_l k
  unfold spec_l2Line.f
  repeat' (with_reducible first | exact ih0 _ _ _ | exact LeO.refl _ | exact LeO.none _ | refine LeO.ite ?_ ?_ | refine LeO.bind ?_ (fun _ => ?_))
set_option maxHeartbeats 8000000 in
set_option maxRecDepth 100000 in
theorem spec_l2Line.calls (k : Nat) (A0 : Option Addr) (c0 : Nat) (l0 : List (S48)) (a1 : Int) (r : Bool) (w : World) (hr0 : Kd.C k48 w A0 l0.length l0) (hc0 : l0.length ≤ c0) (h : spec_l2Line.f k l0 a1 = some r) :
    Calls Try.prog 44 #[.slice A0 l0.length c0, .int .i64 a1] w fun e w' => e = .returned (.bool r) ∧ Drawn0 w w' := by
 have HR0 := a_ hr0; have HC0 := a_ hc0; clear hr0 hc0; have H : (spec_l2Line.l0 k l0 a1 (wrap64 (a1 - 1))) = some r := h; clear h; have H' := a_ H; clear H; go_enter Try.func44, Try.ntmps44
 go_wp2
 go_loopg [5] k (fun kq v5 w' => ∃ (x5_1 : Int), v5 = .int .i64 x5_1 ∧ Aside0 (spec_l2Line.l0 kq l0 a1 x5_1 = some r) ∧ Aside0 (kq ≤ k) ∧ Drawn0 w w')
 case atStart => exact ⟨(wrap64 (a1 - 1)), y3_, H', ⟨Nat.le_refl _⟩, y6_⟩
 case round =>
  clear H'; obtain ⟨x5_1, rfl, HA, HK1, ⟨m1, rfl⟩⟩ := hrel; cases gk with
  | zero => exact absurd HA.out (by simp [spec_l2Line.l0])
  | succ k1 =>
   have H := HA.out; clear HA; simp only [spec_l2Line.l0] at H; by_cases cx0 : x5_1 ≥ 0; rw [if_pos cx0] at H; have cx0b0 : decide (0 ≤ x5_1) = true := decide_eq_true cx0; clear cx0; by_cases cx1 : 0 ≤ a1; rw [if_pos cx1] at H; have cx1b0 : decide (0 ≤ a1) = true := decide_eq_true cx1; clear cx1; by_cases cx2 : a1 < (l0.length : Int); rw [if_pos cx2] at H; have cx2b0 : decide (a1 < (l0.length : Int)) = true := decide_eq_true cx2; clear cx2; by_cases cx3 : x5_1 = ((rd_T48 l0 a1).f1); rw [if_pos cx3] at H; have cx3b0 : (x5_1 == ((rd_T48 l0 a1).f1)) = true := beq_iff_eq.mpr cx3; have cx3b1 : (x5_1 != ((rd_T48 l0 a1).f1)) = false := bne_eq_false_iff_eq.mpr cx3; clear cx3; obtain rfl := Option.some.inj H; have m0_0 := t_; have m0_1 := t_; rotate_left; rw [if_neg cx3] at H; have cx3b0 : (x5_1 == ((rd_T48 l0 a1).f1)) = false := beq_eq_false_iff_ne.mpr cx3; have cx3b1 : (x5_1 != ((rd_T48 l0 a1).f1)) = true := bne_iff_ne.mpr cx3; by_cases cx4 : 0 ≤ x5_1; rw [if_pos cx4] at H; have cx4b0 : decide (0 ≤ x5_1) = true := decide_eq_true cx4; clear cx4; by_cases cx5 : x5_1 < (l0.length : Int); rw [if_pos cx5] at H; have cx5b0 : decide (x5_1 < (l0.length : Int)) = true := decide_eq_true cx5; clear cx5; have H' := a_ H; clear H; have m0_0 := t_; have m0_2 := t_; rotate_left
   ·rw [if_neg cx5] at H; exact absurd H y100_
   ·rw [if_neg cx4] at H; exact absurd H y100_
   ·rw [if_neg cx2] at H; exact absurd H y100_
   ·rw [if_neg cx1] at H; exact absurd H y100_
   rw [if_neg cx0] at H; have cx0b0 : decide (0 ≤ x5_1) = false := decide_eq_false cx0; clear cx0; obtain rfl := Option.some.inj H; have m0_3 := t_; rotate_left
   all_goals (
    first
    | fail_if_success clear m0_0
    |(clear m0_0; have p9922068 : 0 ≤ (a1 : Int) := of_decide_eq_true y2_; have q9922068 : a1 < (l0.length : Int) := of_decide_eq_true y2_; obtain ⟨ad9922068, A108_2, c108_2, e9922068, hx9922068_0, hx9922068_1, hx9922068_2, hl9922068_2, hi108_2⟩ := at_T48 HR0.out a1 p9922068 q9922068; cases e9922068; have HR108_2 := a_ hi108_2; have HC108_2 := a_ hl9922068_2; clear hi108_2 hl9922068_2; replace p9922068 := eq_true p9922068; replace q9922068 := eq_true q9922068)
    first
    | fail_if_success clear m0_1
    |(clear m0_1; go_wp2
      go_ret
      exact ⟨y3_, y6_⟩)
    first
    | fail_if_success clear m0_2
    |(clear m0_2; have p9548309 : 0 ≤ (x5_1 : Int) := of_decide_eq_true y2_; have q9548309 : x5_1 < (l0.length : Int) := of_decide_eq_true y2_; obtain ⟨ad9548309, A109_2, c109_2, e9548309, hx9548309_0, hx9548309_1, hx9548309_2, hl9548309_2, hi109_2⟩ := at_T48 HR0.out x5_1 p9548309 q9548309; obtain rfl : ad9922068 = ad9548309 := (by injection e9548309); have HR109_2 := a_ hi109_2; have HC109_2 := a_ hl9548309_2; clear hi109_2 hl9548309_2; replace p9548309 := eq_true p9548309; replace q9548309 := eq_true q9548309; go_wp2
      go_roundg k1
      case measure => have := HK1.out; omega
      case rel => exact ⟨((rd_T48 l0 x5_1).f1), y3_, H', ⟨y48_⟩, y6_⟩)
    first
    | fail_if_success clear m0_3
    |(clear m0_3; go_wp2
      go_ret
      exact ⟨y3_, y6_⟩))

/-! ### spec_l2Deep: function 45 -/
def spec_l2Deep.l0 : Nat → List (S48) → Int → Int → Option (Int)
  | 0, _, _, _ => none
  | k + 1, x0, x1, x5 => if x1 ≥ 0 then (if x5 < 50 then (if 0 ≤ x1 then (if x1 < (x0.length : Int) then (spec_l2Deep.l0 k x0 ((rd_T48 x0 x1).f1) (wrap64 (x5 + 1))) else (none)) else (none)) else (some x5)) else (some x5)
def spec_l2Deep.f (k : Nat) (l0 : List (S48)) (a1 : Int) : Option (Int) := spec_l2Deep.l0 k l0 a1 0
theorem spec_l2Deep.mono_l : ∀ k, (∀ y0 y1 y2, LeO (spec_l2Deep.l0 k y0 y1 y2) (spec_l2Deep.l0 (k + 1) y0 y1 y2))
  | 0 => fun _ _ _ r h => by simp [spec_l2Deep.l0] at h
  | k + 1 => by
    have ih0 := spec_l2Deep.mono_l k
    · intro y0 y1 y2
      unfold spec_l2Deep.l0
      repeat' (with_reducible first | exact ih0 _ _ _ | exact LeO.refl _ | exact LeO.none _ | refine LeO.ite ?_ ?_ | refine LeO.bind ?_ (fun _ => ?_))
theorem spec_l2Deep.mono : ∀ a0 a1 k, LeO (spec_l2Deep.f k a0 a1) (spec_l2Deep.f (k + 1) a0 a1) := by
  intro a0 a1 k
  have ih0 := spec_l2Deep.mono_l k
  unfold spec_l2Deep.f
  repeat' (with_reducible first | exact ih0 _ _ _ | exact LeO.refl _ | exact LeO.none _ | refine LeO.ite ?_ ?_ | refine LeO.bind ?_ (fun _ => ?_))
set_option maxHeartbeats 8000000 in
set_option maxRecDepth 100000 in
theorem spec_l2Deep.calls (k : Nat) (A0 : Option Addr) (c0 : Nat) (l0 : List (S48)) (a1 : Int) (r : Int) (w : World) (hr0 : Kd.C k48 w A0 l0.length l0) (hc0 : l0.length ≤ c0) (h : spec_l2Deep.f k l0 a1 = some r) :
    Calls Try.prog 45 #[.slice A0 l0.length c0, .int .i64 a1] w fun e w' => e = .returned (.int .i64 r) ∧ Drawn0 w w' := by
 have HR0 := a_ hr0; have HC0 := a_ hc0; clear hr0 hc0; have H : (spec_l2Deep.l0 k l0 a1 0) = some r := h; clear h; have H' := a_ H; clear H; go_enter Try.func45, Try.ntmps45
 go_wp2
 go_loopg [1, 5] k (fun kq v1 v5 w' => ∃ (x1_1 : Int) (x5_1 : Int), v1 = .int .i64 x1_1 ∧ v5 = .int .i64 x5_1 ∧ Aside0 (spec_l2Deep.l0 kq l0 x1_1 x5_1 = some r) ∧ Aside0 (kq ≤ k) ∧ Drawn0 w w')
 case atStart => exact ⟨(a1), (0), y3_, y3_, H', ⟨Nat.le_refl _⟩, y6_⟩
 case round =>
  clear H'; obtain ⟨x1_1, x5_1, rfl, rfl, HA, HK1, ⟨m1, rfl⟩⟩ := hrel; cases gk with
  | zero => exact absurd HA.out (by simp [spec_l2Deep.l0])
  | succ k1 =>
   have H := HA.out; clear HA; simp only [spec_l2Deep.l0] at H; by_cases c3 : x1_1 ≥ 0
   ·rw [if_pos c3] at H; have c3b0 : decide (0 ≤ x1_1) = true := decide_eq_true c3; clear c3; by_cases c4 : x5_1 < 50
    ·rw [if_pos c4] at H; have c4b0 : decide (x5_1 < 50) = true := decide_eq_true c4; clear c4; by_cases c5 : 0 ≤ x1_1
     ·rw [if_pos c5] at H; have c5b0 : decide (0 ≤ x1_1) = true := decide_eq_true c5; clear c5; by_cases c6 : x1_1 < (l0.length : Int)
      ·rw [if_pos c6] at H; have c6b0 : decide (x1_1 < (l0.length : Int)) = true := decide_eq_true c6; clear c6; have H' := a_ H; clear H; have p110 : 0 ≤ (x1_1 : Int) := of_decide_eq_true y2_; have q110 : x1_1 < (l0.length : Int) := of_decide_eq_true y2_; obtain ⟨ad110, A110_2, c110_2, e110, hx110_0, hx110_1, hx110_2, hl110_2, hi110_2⟩ := at_T48 HR0.out x1_1 p110 q110; cases e110; have HR110_2 := a_ hi110_2; have HC110_2 := a_ hl110_2; clear hi110_2 hl110_2; replace p110 := eq_true p110; replace q110 := eq_true q110; go_wp2
       go_roundg k1
       case measure => have := HK1.out; omega
       case rel => exact ⟨((rd_T48 l0 x1_1).f1), (wrap64 (x5_1 + 1)), y3_, y3_, H', ⟨y48_⟩, y6_⟩
      ·rw [if_neg c6] at H; exact absurd H y100_
     ·rw [if_neg c5] at H; exact absurd H y100_
    ·rw [if_neg c4] at H; have c4b0 : decide (x5_1 < 50) = false := decide_eq_false c4; clear c4; obtain rfl := Option.some.inj H; go_wp2
     go_ret
     exact ⟨y3_, y6_⟩
   ·rw [if_neg c3] at H; have c3b0 : decide (0 ≤ x1_1) = false := decide_eq_false c3; clear c3; obtain rfl := Option.some.inj H; go_wp2
    go_ret
    exact ⟨y3_, y6_⟩

/-! ### spec_l2Attr: function 53 -/
def spec_l2Attr.l0 : Nat → List (S78) → ByteArray → Int → Option (Int)
  | 0, _, _, _ => none
  | k + 1, x0, x1, x5 => if x5 < (x0.length : Int) then (if 0 ≤ x5 then (if ((rd_T78 x0 x5).f0).toList = x1.toList then (some x5) else (spec_l2Attr.l0 k x0 x1 (wrap64 (x5 + 1)))) else (none)) else (some (-1))
def spec_l2Attr.f (k : Nat) (l0 : List (S78)) (a1 : ByteArray) : Option (Int) := spec_l2Attr.l0 k l0 a1 0
theorem spec_l2Attr.mono_l : ∀ k, (∀ y0 y1 y2, LeO (spec_l2Attr.l0 k y0 y1 y2) (spec_l2Attr.l0 (k + 1) y0 y1 y2))
  | 0 => fun _ _ _ r h => by simp [spec_l2Attr.l0] at h
  | k + 1 => by
    have ih0 := spec_l2Attr.mono_l k
    · intro y0 y1 y2
      unfold spec_l2Attr.l0
      repeat' (with_reducible first | exact ih0 _ _ _ | exact LeO.refl _ | exact LeO.none _ | refine LeO.ite ?_ ?_ | refine LeO.bind ?_ (fun _ => ?_))
theorem spec_l2Attr.mono : ∀ a0 a1 k, LeO (spec_l2Attr.f k a0 a1) (spec_l2Attr.f (k + 1) a0 a1) := by
  intro a0 a1 k
  have ih0 := spec_l2Attr.mono_l k
  unfold spec_l2Attr.f
  repeat' (with_reducible first | exact ih0 _ _ _ | exact LeO.refl _ | exact LeO.none _ | refine LeO.ite ?_ ?_ | refine LeO.bind ?_ (fun _ => ?_))
set_option maxHeartbeats 8000000 in
set_option maxRecDepth 100000 in
theorem spec_l2Attr.calls (k : Nat) (A0 : Option Addr) (c0 : Nat) (l0 : List (S78)) (a1 : ByteArray) (r : Int) (w : World) (hr0 : Kd.C k78 w A0 l0.length l0) (hc0 : l0.length ≤ c0) (h : spec_l2Attr.f k l0 a1 = some r) :
    Calls Try.prog 53 #[.slice A0 l0.length c0, .string a1] w fun e w' => e = .returned (.int .i64 r) ∧ Drawn0 w w' := by
 have HR0 := a_ hr0; have HC0 := a_ hc0; clear hr0 hc0; have H : (spec_l2Attr.l0 k l0 a1 0) = some r := h; clear h; have H' := a_ H; clear H; go_enter Try.func53, Try.ntmps53
 go_wp2
 go_loopg [5] k (fun kq v5 w' => ∃ (x5_1 : Int), v5 = .int .i64 x5_1 ∧ Aside0 (spec_l2Attr.l0 kq l0 a1 x5_1 = some r) ∧ Aside0 (kq ≤ k) ∧ Drawn0 w w')
 case atStart => exact ⟨(0), y3_, H', ⟨Nat.le_refl _⟩, y6_⟩
 case round =>
  clear H'; obtain ⟨x5_1, rfl, HA, HK1, ⟨m1, rfl⟩⟩ := hrel; cases gk with
  | zero => exact absurd HA.out (by simp [spec_l2Attr.l0])
  | succ k1 =>
   have H := HA.out; clear HA; simp only [spec_l2Attr.l0] at H; by_cases cx0 : x5_1 < (l0.length : Int); rw [if_pos cx0] at H; have cx0b0 : decide (x5_1 < (l0.length : Int)) = true := decide_eq_true cx0; clear cx0; by_cases cx1 : 0 ≤ x5_1; rw [if_pos cx1] at H; have cx1b0 : decide (0 ≤ x5_1) = true := decide_eq_true cx1; clear cx1; by_cases cx2 : ((rd_T78 l0 x5_1).f0).toList = a1.toList; rw [if_pos cx2] at H; have cx2b0 : (((rd_T78 l0 x5_1).f0).toList == a1.toList) = true := beq_iff_eq.mpr cx2; have cx2b1 : (((rd_T78 l0 x5_1).f0).toList != a1.toList) = false := bne_eq_false_iff_eq.mpr cx2; clear cx2; obtain rfl := Option.some.inj H; have m0_0 := t_; have m0_1 := t_; rotate_left; rw [if_neg cx2] at H; have cx2b0 : (((rd_T78 l0 x5_1).f0).toList == a1.toList) = false := beq_eq_false_iff_ne.mpr cx2; have cx2b1 : (((rd_T78 l0 x5_1).f0).toList != a1.toList) = true := bne_iff_ne.mpr cx2; have H' := a_ H; clear H; have m0_0 := t_; have m0_2 := t_; rotate_left
   ·rw [if_neg cx1] at H; exact absurd H y100_
   rw [if_neg cx0] at H; have cx0b0 : decide (x5_1 < (l0.length : Int)) = false := decide_eq_false cx0; clear cx0; obtain rfl := Option.some.inj H; have m0_3 := t_; rotate_left
   all_goals (
    first
    | fail_if_success clear m0_0
    |(clear m0_0; have p9922068 : 0 ≤ (x5_1 : Int) := of_decide_eq_true y2_; have q9922068 : x5_1 < (l0.length : Int) := of_decide_eq_true y2_; obtain ⟨ad9922068, e9922068, hx9922068_0, hx9922068_1⟩ := at_T78 HR0.out x5_1 p9922068 q9922068; cases e9922068; replace p9922068 := eq_true p9922068; replace q9922068 := eq_true q9922068; go_wp2)
    first
    | fail_if_success clear m0_1
    |(clear m0_1; go_ret
      exact ⟨y3_, y6_⟩)
    first
    | fail_if_success clear m0_2
    |(clear m0_2; go_roundg k1
      case measure => have := HK1.out; omega
      case rel => exact ⟨(wrap64 (x5_1 + 1)), y3_, H', ⟨y48_⟩, y6_⟩)
    first
    | fail_if_success clear m0_3
    |(clear m0_3; go_wp2
      go_ret
      exact ⟨y3_, y6_⟩))

/-! ### spec_l1Plain: function 61 -/
def spec_l1Plain.f (a0 : Int) : Option (Bool) := if a0 ≥ 32 then (some (decide (a0 ≤ 126))) else (some false)
set_option maxHeartbeats 8000000 in
set_option maxRecDepth 100000 in
theorem spec_l1Plain.calls (a0 : Int) (r : Bool) (w : World) (h : spec_l1Plain.f a0 = some r) :
    Calls Try.prog 61 #[.int .u8 a0] w fun e w' => e = .returned (.bool r) ∧ Drawn0 w w' := by
 have H : (if a0 ≥ 32 then (some (decide (a0 ≤ 126))) else (some false)) = some r := h; clear h; by_cases c2 : a0 ≥ 32
 ·rw [if_pos c2] at H; have c2b0 : decide (32 ≤ a0) = true := decide_eq_true c2; clear c2; obtain rfl := Option.some.inj H; go_enter Try.func61, Try.ntmps61
  go_wp2
  go_ret
  exact ⟨y3_, y6_⟩
 ·rw [if_neg c2] at H; have c2b0 : decide (32 ≤ a0) = false := decide_eq_false c2; clear c2; obtain rfl := Option.some.inj H; go_enter Try.func61, Try.ntmps61
  go_wp2
  go_ret
  exact ⟨y3_, y6_⟩

/-! ### spec_l1Value: function 55 -/
def spec_l1Value.l0 : Nat → ByteArray → Int → Option (Int)
  | 0, _, _ => none
  | k + 1, x0, x3 => if x3 < (x0.size : Int) then (if 0 ≤ x3 then ((spec_l1Plain.f (bt x0 x3)).bind fun t112 => (if t112 = true then (spec_l1Value.l0 k x0 (wrap64 (x3 + 1))) else (some 5))) else (none)) else (some 0)
def spec_l1Value.f (k : Nat) (a0 : ByteArray) : Option (Int) := if (a0.size : Int) > 40 then (some 2) else (spec_l1Value.l0 k a0 0)
theorem spec_l1Value.mono_l : ∀ k, (∀ y0 y1, LeO (spec_l1Value.l0 k y0 y1) (spec_l1Value.l0 (k + 1) y0 y1))
  | 0 => fun _ _ r h => by simp [spec_l1Value.l0] at h
  | k + 1 => by
    have ih0 := spec_l1Value.mono_l k
    · intro y0 y1
      unfold spec_l1Value.l0
      repeat' (with_reducible first | exact ih0 _ _ | exact LeO.refl _ | exact LeO.none _ | refine LeO.ite ?_ ?_ | refine LeO.bind ?_ (fun _ => ?_))
theorem spec_l1Value.mono : ∀ a0 k, LeO (spec_l1Value.f k a0) (spec_l1Value.f (k + 1) a0) := by
  intro a0 k
  have ih0 := spec_l1Value.mono_l k
  unfold spec_l1Value.f
  repeat' (with_reducible first | exact ih0 _ _ | exact LeO.refl _ | exact LeO.none _ | refine LeO.ite ?_ ?_ | refine LeO.bind ?_ (fun _ => ?_))
set_option maxHeartbeats 8000000 in
set_option maxRecDepth 100000 in
theorem spec_l1Value.calls (k : Nat) (a0 : ByteArray) (r : Int) (w : World) (h : spec_l1Value.f k a0 = some r) :
    Calls Try.prog 55 #[.string a0] w fun e w' => e = .returned (.int .i64 r) ∧ Drawn0 w w' := by
 have H : (if (a0.size : Int) > 40 then (some 2) else (spec_l1Value.l0 k a0 0)) = some r := h; clear h; by_cases cx0 : (a0.size : Int) > 40
 ·rw [if_pos cx0] at H; have cx0b0 : decide (40 < (a0.size : Int)) = true := decide_eq_true cx0; have cx0b1 : decide (40 < a0.size) = true := decide_eq_true (by omega); clear cx0; obtain rfl := Option.some.inj H; go_enter Try.func55, Try.ntmps55
  go_wp2
  go_ret
  exact ⟨y3_, y6_⟩
 ·rw [if_neg cx0] at H; have cx0b0 : decide (40 < (a0.size : Int)) = false := decide_eq_false cx0; have cx0b1 : decide (40 < a0.size) = false := decide_eq_false (by omega); clear cx0; have H' := a_ H; clear H; go_enter Try.func55, Try.ntmps55
  go_wp2
  go_loopg [3] k (fun kq v3 w' => ∃ (x3_1 : Int), v3 = .int .i64 x3_1 ∧ Aside0 (spec_l1Value.l0 kq a0 x3_1 = some r) ∧ Aside0 (kq ≤ k) ∧ Drawn0 w w')
  case atStart => exact ⟨(0), y3_, H', ⟨Nat.le_refl _⟩, y6_⟩
  case round =>
   clear H'; (try clear cx0); (try clear cx0b0); (try clear cx0b1); obtain ⟨x3_1, rfl, HA, HK1, ⟨m1, rfl⟩⟩ := hrel; cases gk with
   | zero => exact absurd HA.out (by simp [spec_l1Value.l0])
   | succ k1 =>
    have H := HA.out; clear HA; simp only [spec_l1Value.l0] at H; by_cases cx1 : x3_1 < (a0.size : Int); rw [if_pos cx1] at H; have cx1b0 : decide (x3_1 < (a0.size : Int)) = true := decide_eq_true cx1; clear cx1; by_cases cx2 : 0 ≤ x3_1; rw [if_pos cx2] at H; have cx2b0 : decide (0 ≤ x3_1) = true := decide_eq_true cx2; clear cx2; replace H := Option.bind_eq_some_iff.mp H; obtain ⟨tx3, Ay3, H⟩ := H; have Ax3 := a_ Ay3; clear Ay3; by_cases cx4 : tx3 = true; subst cx4; rw [if_pos rfl] at H; have H' := a_ H; clear H; have m1_0 := t_; have m1_1 := t_; rotate_left; replace cx4 := Bool.eq_false_iff.mpr cx4; subst cx4; rw [if_neg (show ¬ (false = true) by decide)] at H; obtain rfl := Option.some.inj H; have m1_0 := t_; have m1_2 := t_; rotate_left
    ·rw [if_neg cx2] at H; exact absurd H y100_
    rw [if_neg cx1] at H; have cx1b0 : decide (x3_1 < (a0.size : Int)) = false := decide_eq_false cx1; clear cx1; obtain rfl := Option.some.inj H; have m1_3 := t_; rotate_left
    all_goals (
     first
     | fail_if_success clear m1_0
     |(clear m1_0; have p9922068 : 0 ≤ (x3_1 : Int) := of_decide_eq_true y2_; have q9922068 : x3_1 < (a0.size : Int) := of_decide_eq_true y2_; have hx9922068 := bt_at a0 x3_1; replace p9922068 := eq_true p9922068; replace q9922068 := eq_true q9922068; go_wp2_with (first | ((with_reducible refine gate_callee (f := 61) rfl ?_); refine gc_ 61 16 Try.func61 #[.int .u8 (bt a0 x3_1)] ?_; (with_reducible refine (spec_l1Plain.calls (bt a0 x3_1) _ _ Ax3.out).mono ?_); rintro e w' ⟨rfl, ⟨nd, rfl⟩⟩; refine ⟨_, rfl, ?_⟩)))
     first
     | fail_if_success clear m1_1
     |(clear m1_1; go_roundg k1
       case measure => have := HK1.out; omega
       case rel => exact ⟨(wrap64 (x3_1 + 1)), y3_, H', ⟨y48_⟩, y6_⟩)
     first
     | fail_if_success clear m1_2
     |(clear m1_2; go_ret
       exact ⟨y3_, y6_⟩)
     first
     | fail_if_success clear m1_3
     |(clear m1_3; go_wp2
       go_ret
       exact ⟨y3_, y6_⟩))

/-! ### spec_l2Attrs: function 46 -/
def spec_l2Attrs.l0 : Nat → List (S78) → Int → Option (Int)
  | 0, _, _ => none
  | k + 1, x0, x3 => if x3 < (x0.length : Int) then (if 0 ≤ x3 then ((spec_l1Name.f k ((rd_T78 x0 x3).f0)).bind fun t114 => (if t114 = 0 then (if x3 ≤ (x0.length : Int) then ((spec_l2Attr.f k (x0.take (x3 : Int).toNat) ((rd_T78 x0 x3).f0)).bind fun t120 => (if t120 ≥ 0 then (some 6) else ((spec_l1Value.f k ((rd_T78 x0 x3).f1)).bind fun t122 => (if t122 = 0 then (spec_l2Attrs.l0 k x0 (wrap64 (x3 + 1))) else (some t122))))) else (none)) else (some t114))) else (none)) else (some 0)
def spec_l2Attrs.f (k : Nat) (l0 : List (S78)) : Option (Int) := spec_l2Attrs.l0 k l0 0
theorem spec_l2Attrs.mono_l : ∀ k, (∀ y0 y1, LeO (spec_l2Attrs.l0 k y0 y1) (spec_l2Attrs.l0 (k + 1) y0 y1))
  | 0 => fun _ _ r h => by simp [spec_l2Attrs.l0] at h
  | k + 1 => by
    have ih0 := spec_l2Attrs.mono_l k
    · intro y0 y1
      unfold spec_l2Attrs.l0
      repeat' (with_reducible first | exact ih0 _ _ | exact spec_l1Name.mono _ _ | exact spec_l1Value.mono _ _ | exact spec_l2Attr.mono _ _ _ | exact LeO.refl _ | exact LeO.none _ | refine LeO.ite ?_ ?_ | refine LeO.bind ?_ (fun _ => ?_))
theorem spec_l2Attrs.mono : ∀ a0 k, LeO (spec_l2Attrs.f k a0) (spec_l2Attrs.f (k + 1) a0) := by
  intro a0 k
  have ih0 := spec_l2Attrs.mono_l k
  unfold spec_l2Attrs.f
  repeat' (with_reducible first | exact ih0 _ _ | exact spec_l1Name.mono _ _ | exact spec_l1Value.mono _ _ | exact spec_l2Attr.mono _ _ _ | exact LeO.refl _ | exact LeO.none _ | refine LeO.ite ?_ ?_ | refine LeO.bind ?_ (fun _ => ?_))
set_option maxHeartbeats 8000000 in
set_option maxRecDepth 100000 in
theorem spec_l2Attrs.calls (k : Nat) (A0 : Option Addr) (c0 : Nat) (l0 : List (S78)) (r : Int) (w : World) (hr0 : Kd.C k78 w A0 l0.length l0) (hc0 : l0.length ≤ c0) (h : spec_l2Attrs.f k l0 = some r) :
    Calls Try.prog 46 #[.slice A0 l0.length c0] w fun e w' => e = .returned (.int .i64 r) ∧ Drawn0 w w' := by
 have HR0 := a_ hr0; have HC0 := a_ hc0; clear hr0 hc0; have H : (spec_l2Attrs.l0 k l0 0) = some r := h; clear h; have H' := a_ H; clear H; go_enter Try.func46, Try.ntmps46
 go_wp2
 repeat (go_quiet (fail); try go_wp2)
 go_loopg [3] k (fun kq v3 w' => ∃ (x3_1 : Int), v3 = .int .i64 x3_1 ∧ Aside0 (spec_l2Attrs.l0 kq l0 x3_1 = some r) ∧ Aside0 (kq ≤ k) ∧ Drawn0 w w')
 case atStart => exact ⟨(0), y3_, H', ⟨Nat.le_refl _⟩, y6_⟩
 case round =>
  clear H'; obtain ⟨x3_1, rfl, HA, HK1, ⟨m1, rfl⟩⟩ := hrel; cases gk with
  | zero => exact absurd HA.out (by simp [spec_l2Attrs.l0])
  | succ k1 =>
   have H := HA.out; clear HA; simp only [spec_l2Attrs.l0] at H; by_cases cx0 : x3_1 < (l0.length : Int); rw [if_pos cx0] at H; have cx0b0 : decide (x3_1 < (l0.length : Int)) = true := decide_eq_true cx0; clear cx0; by_cases cx1 : 0 ≤ x3_1; rw [if_pos cx1] at H; have cx1b0 : decide (0 ≤ x3_1) = true := decide_eq_true cx1; clear cx1; replace H := Option.bind_eq_some_iff.mp H; obtain ⟨tx2, Ay2, H⟩ := H; have Ax2 := a_ Ay2; clear Ay2; by_cases cx3 : tx2 = 0; rw [if_pos cx3] at H; have cx3b0 : (tx2 == 0) = true := beq_iff_eq.mpr cx3; have cx3b1 : (tx2 != 0) = false := bne_eq_false_iff_eq.mpr cx3; clear cx3; have c6b0 := eq_true (of_decide_eq_true y2_ : 0 ≤ x3_1); by_cases cx4 : x3_1 ≤ (l0.length : Int); rw [if_pos cx4] at H; have cx4b0 := eq_true cx4; have cx4b1 : decide (x3_1 ≤ (l0.length : Int)) = true := decide_eq_true cx4; clear cx4; obtain ⟨y115, hy_⟩ : ∃ y_ : List (S78), y_ = (l0.take (x3_1 : Int).toNat) := ⟨_, rfl⟩; replace H : ((spec_l2Attr.f k1 y115 ((rd_T78 l0 x3_1).f0)).bind fun t120 => (if t120 ≥ 0 then (some 6) else ((spec_l1Value.f k1 ((rd_T78 l0 x3_1).f1)).bind fun t122 => (if t122 = 0 then (spec_l2Attrs.l0 k1 l0 (wrap64 (x3_1 + 1))) else (some t122))))) = some r := z0_; have Ny115 := a_ hy_; clear hy_; replace H := Option.bind_eq_some_iff.mp H; obtain ⟨tx5, Ay5, H⟩ := H; have Ax5 := a_ Ay5; clear Ay5; by_cases cx6 : tx5 ≥ 0; rw [if_pos cx6] at H; have cx6b0 : decide (0 ≤ tx5) = true := decide_eq_true cx6; clear cx6; obtain rfl := Option.some.inj H; have m0_0 := t_; have m0_1 := t_; have m0_2 := t_; have m0_7 := t_; rotate_left; rw [if_neg cx6] at H; have cx6b0 : decide (0 ≤ tx5) = false := decide_eq_false cx6; clear cx6; replace H := Option.bind_eq_some_iff.mp H; obtain ⟨tx7, Ay7, H⟩ := H; have Ax7 := a_ Ay7; clear Ay7; by_cases cx8 : tx7 = 0; rw [if_pos cx8] at H; have cx8b0 : (tx7 == 0) = true := beq_iff_eq.mpr cx8; have cx8b1 : (tx7 != 0) = false := bne_eq_false_iff_eq.mpr cx8; clear cx8; have H' := a_ H; clear H; have m0_0 := t_; have m0_3 := t_; have m0_4 := t_; have m0_8 := t_; rotate_left; rw [if_neg cx8] at H; have cx8b0 : (tx7 == 0) = false := beq_eq_false_iff_ne.mpr cx8; have cx8b1 : (tx7 != 0) = true := bne_iff_ne.mpr cx8; obtain rfl := Option.some.inj H; have m0_0 := t_; have m0_4 := t_; have m0_5 := t_; have m0_7 := t_; rotate_left
   ·rw [if_neg cx4] at H; exact absurd H y100_
   rw [if_neg cx3] at H; have cx3b0 : (tx2 == 0) = false := beq_eq_false_iff_ne.mpr cx3; have cx3b1 : (tx2 != 0) = true := bne_iff_ne.mpr cx3; obtain rfl := Option.some.inj H; have m0_0 := t_; have m0_6 := t_; have m0_7 := t_; rotate_left
   ·rw [if_neg cx1] at H; exact absurd H y100_
   rw [if_neg cx0] at H; have cx0b0 : decide (x3_1 < (l0.length : Int)) = false := decide_eq_false cx0; clear cx0; obtain rfl := Option.some.inj H; have m0_9 := t_; rotate_left
   all_goals (
    first
    | fail_if_success clear m0_0
    |(clear m0_0; have p9922068 : 0 ≤ (x3_1 : Int) := of_decide_eq_true y2_; have q9922068 : x3_1 < (l0.length : Int) := of_decide_eq_true y2_; obtain ⟨ad9922068, e9922068, hx9922068_0, hx9922068_1⟩ := at_T78 HR0.out x3_1 p9922068 q9922068; cases e9922068; replace p9922068 := eq_true p9922068; replace q9922068 := eq_true q9922068
      go_wp2_with (first | (have mkq_ := m0_1; clear mkq_; go_at_call 43; (with_reducible refine (spec_l1Name.calls k1 ((rd_T78 l0 x3_1).f0) tx2 _ Ax2.out).mono ?_); rintro e w' ⟨rfl, ⟨nd, rfl⟩⟩; (try first | exact ⟨rfl, _, World.drewN_drewN _ _ _⟩ | exact ⟨rfl, _, Eq.trans (World.drewN_drewN _ _ _) (congrArg (World.drewN _) (Nat.add_assoc _ _ _))⟩); have q9890726 : (x3_1 : Int) ≤ ((l0.length : Int) : Int) := of_decide_eq_true y2_; obtain ⟨i010, hi010, _, hsz10, _⟩ := info_parts info78; have hroom10 : l0.length ≤ c0 := HC0.out; have hC10 : Kd.C k78 _ (some ad9922068) l0.length l0 := HR0.out; have hcut10 := cut_to (P := Try.prog) 46 78 .i64 Try.underlying46 hi010 (some ad9922068) l0.length c0 x3_1 (of_decide_eq_true y2_) q9890726 hroom10; have hr9890726 := Kd.C_take (m := (x3_1 : Int).toNat) hC10 (by omega); have hy9890726 : y115.length = (x3_1 : Int).toNat := (by rw [Ny115.out, List.length_take]; omega); rw [← Ny115.out] at hr9890726; rw [← hy9890726] at hcut10; have HR118 := a_ hr9890726; have HC118 := a_ (show y115.length ≤ c0 from by omega); clear hr9890726 hC10 hroom10 hi010 hsz10; have KY10 := a_ hy9890726; clear hy9890726; replace q9890726 := eq_true q9890726; have p9747342 : 0 ≤ (x3_1 : Int) := of_decide_eq_true y2_; have q9747342 : x3_1 < (l0.length : Int) := of_decide_eq_true y2_; obtain ⟨ad9747342, e9747342, hx9747342_0, hx9747342_1⟩ := at_T78 HR0.out x3_1 p9747342 q9747342; obtain rfl : ad9922068 = ad9747342 := (by injection e9747342); replace p9747342 := eq_true p9747342; replace q9747342 := eq_true q9747342) | (have mkq_ := m0_2; clear mkq_; go_at_call 53; (with_reducible refine (spec_l2Attr.calls k1 _ _ y115 ((rd_T78 l0 x3_1).f0) tx5 _ ?side1 ?side2 Ax5.out).mono ?_); (case side1 => repeat (first | exact HR118.out | (with_reducible refine Kd.C_alloc ?_ _) | (with_reducible refine Kd.C_drewN ?_ _) | (with_reducible refine Kd.C_drew ?_))); (case side2 => exact HC118.out); rintro e w' ⟨rfl, ⟨nd, rfl⟩⟩; (try first | exact ⟨rfl, _, World.drewN_drewN _ _ _⟩ | exact ⟨rfl, _, Eq.trans (World.drewN_drewN _ _ _) (congrArg (World.drewN _) (Nat.add_assoc _ _ _))⟩)) | (have mkq_ := m0_3; clear mkq_; go_at_call 43; (with_reducible refine (spec_l1Name.calls k1 ((rd_T78 l0 x3_1).f0) tx2 _ Ax2.out).mono ?_); rintro e w' ⟨rfl, ⟨nd, rfl⟩⟩; (try first | exact ⟨rfl, _, World.drewN_drewN _ _ _⟩ | exact ⟨rfl, _, Eq.trans (World.drewN_drewN _ _ _) (congrArg (World.drewN _) (Nat.add_assoc _ _ _))⟩); have q9890726 : (x3_1 : Int) ≤ ((l0.length : Int) : Int) := of_decide_eq_true y2_; obtain ⟨i013, hi013, _, hsz13, _⟩ := info_parts info78; have hroom13 : l0.length ≤ c0 := HC0.out; have hC13 : Kd.C k78 _ (some ad9922068) l0.length l0 := HR0.out; have hcut13 := cut_to (P := Try.prog) 46 78 .i64 Try.underlying46 hi013 (some ad9922068) l0.length c0 x3_1 (of_decide_eq_true y2_) q9890726 hroom13; have hr9890726 := Kd.C_take (m := (x3_1 : Int).toNat) hC13 (by omega); have hy9890726 : y115.length = (x3_1 : Int).toNat := (by rw [Ny115.out, List.length_take]; omega); rw [← Ny115.out] at hr9890726; rw [← hy9890726] at hcut13; have HR118 := a_ hr9890726; have HC118 := a_ (show y115.length ≤ c0 from by omega); clear hr9890726 hC13 hroom13 hi013 hsz13; have KY13 := a_ hy9890726; clear hy9890726; replace q9890726 := eq_true q9890726; have p9316237 : 0 ≤ (x3_1 : Int) := of_decide_eq_true y2_; have q9316237 : x3_1 < (l0.length : Int) := of_decide_eq_true y2_; obtain ⟨ad9316237, e9316237, hx9316237_0, hx9316237_1⟩ := at_T78 HR0.out x3_1 p9316237 q9316237; obtain rfl : ad9922068 = ad9316237 := (by injection e9316237); replace p9316237 := eq_true p9316237; replace q9316237 := eq_true q9316237) | (have mkq_ := m0_4; clear mkq_; go_at_call 53; (with_reducible refine (spec_l2Attr.calls k1 _ _ y115 ((rd_T78 l0 x3_1).f0) tx5 _ ?side1 ?side2 Ax5.out).mono ?_); (case side1 => repeat (first | exact HR118.out | (with_reducible refine Kd.C_alloc ?_ _) | (with_reducible refine Kd.C_drewN ?_ _) | (with_reducible refine Kd.C_drew ?_))); (case side2 => exact HC118.out); rintro e w' ⟨rfl, ⟨nd, rfl⟩⟩; (try first | exact ⟨rfl, _, World.drewN_drewN _ _ _⟩ | exact ⟨rfl, _, Eq.trans (World.drewN_drewN _ _ _) (congrArg (World.drewN _) (Nat.add_assoc _ _ _))⟩); have p9401865 : 0 ≤ (x3_1 : Int) := of_decide_eq_true y2_; have q9401865 : x3_1 < (l0.length : Int) := of_decide_eq_true y2_; obtain ⟨ad9401865, e9401865, hx9401865_0, hx9401865_1⟩ := at_T78 HR0.out x3_1 p9401865 q9401865; obtain rfl : ad9922068 = ad9401865 := (by injection e9401865); replace p9401865 := eq_true p9401865; replace q9401865 := eq_true q9401865) | (go_at_call 55; (with_reducible refine (spec_l1Value.calls k1 ((rd_T78 l0 x3_1).f1) tx7 _ Ax7.out).mono ?_); rintro e w' ⟨rfl, ⟨nd, rfl⟩⟩; (try first | exact ⟨rfl, _, World.drewN_drewN _ _ _⟩ | exact ⟨rfl, _, Eq.trans (World.drewN_drewN _ _ _) (congrArg (World.drewN _) (Nat.add_assoc _ _ _))⟩)) | (have mkq_ := m0_5; clear mkq_; go_at_call 43; (with_reducible refine (spec_l1Name.calls k1 ((rd_T78 l0 x3_1).f0) tx2 _ Ax2.out).mono ?_); rintro e w' ⟨rfl, ⟨nd, rfl⟩⟩; (try first | exact ⟨rfl, _, World.drewN_drewN _ _ _⟩ | exact ⟨rfl, _, Eq.trans (World.drewN_drewN _ _ _) (congrArg (World.drewN _) (Nat.add_assoc _ _ _))⟩); have q9890726 : (x3_1 : Int) ≤ ((l0.length : Int) : Int) := of_decide_eq_true y2_; obtain ⟨i014, hi014, _, hsz14, _⟩ := info_parts info78; have hroom14 : l0.length ≤ c0 := HC0.out; have hC14 : Kd.C k78 _ (some ad9922068) l0.length l0 := HR0.out; have hcut14 := cut_to (P := Try.prog) 46 78 .i64 Try.underlying46 hi014 (some ad9922068) l0.length c0 x3_1 (of_decide_eq_true y2_) q9890726 hroom14; have hr9890726 := Kd.C_take (m := (x3_1 : Int).toNat) hC14 (by omega); have hy9890726 : y115.length = (x3_1 : Int).toNat := (by rw [Ny115.out, List.length_take]; omega); rw [← Ny115.out] at hr9890726; rw [← hy9890726] at hcut14; have HR118 := a_ hr9890726; have HC118 := a_ (show y115.length ≤ c0 from by omega); clear hr9890726 hC14 hroom14 hi014 hsz14; have KY14 := a_ hy9890726; clear hy9890726; replace q9890726 := eq_true q9890726; have p9199965 : 0 ≤ (x3_1 : Int) := of_decide_eq_true y2_; have q9199965 : x3_1 < (l0.length : Int) := of_decide_eq_true y2_; obtain ⟨ad9199965, e9199965, hx9199965_0, hx9199965_1⟩ := at_T78 HR0.out x3_1 p9199965 q9199965; obtain rfl : ad9922068 = ad9199965 := (by injection e9199965); replace p9199965 := eq_true p9199965; replace q9199965 := eq_true q9199965) | (have mkq_ := m0_6; clear mkq_; go_at_call 43; (with_reducible refine (spec_l1Name.calls k1 ((rd_T78 l0 x3_1).f0) tx2 _ Ax2.out).mono ?_); rintro e w' ⟨rfl, ⟨nd, rfl⟩⟩; (try first | exact ⟨rfl, _, World.drewN_drewN _ _ _⟩ | exact ⟨rfl, _, Eq.trans (World.drewN_drewN _ _ _) (congrArg (World.drewN _) (Nat.add_assoc _ _ _))⟩)) | go_quiet (first | (go_at_call 43; (with_reducible refine (spec_l1Name.calls k1 ((rd_T78 l0 x3_1).f0) tx2 _ Ax2.out).mono ?_); rintro e w' ⟨rfl, ⟨nd, rfl⟩⟩; (try first | exact ⟨rfl, _, World.drewN_drewN _ _ _⟩ | exact ⟨rfl, _, Eq.trans (World.drewN_drewN _ _ _) (congrArg (World.drewN _) (Nat.add_assoc _ _ _))⟩); have q9890726 : (x3_1 : Int) ≤ ((l0.length : Int) : Int) := of_decide_eq_true y2_; obtain ⟨i010, hi010, _, hsz10, _⟩ := info_parts info78; have hroom10 : l0.length ≤ c0 := HC0.out; have hC10 : Kd.C k78 _ (some ad9922068) l0.length l0 := HR0.out; have hcut10 := cut_to (P := Try.prog) 46 78 .i64 Try.underlying46 hi010 (some ad9922068) l0.length c0 x3_1 (of_decide_eq_true y2_) q9890726 hroom10; have hr9890726 := Kd.C_take (m := (x3_1 : Int).toNat) hC10 (by omega); have hy9890726 : y115.length = (x3_1 : Int).toNat := (by rw [Ny115.out, List.length_take]; omega); rw [← Ny115.out] at hr9890726; rw [← hy9890726] at hcut10; have HR118 := a_ hr9890726; have HC118 := a_ (show y115.length ≤ c0 from by omega); clear hr9890726 hC10 hroom10 hi010 hsz10; have KY10 := a_ hy9890726; clear hy9890726; replace q9890726 := eq_true q9890726; have p9747342 : 0 ≤ (x3_1 : Int) := of_decide_eq_true y2_; have q9747342 : x3_1 < (l0.length : Int) := of_decide_eq_true y2_; obtain ⟨ad9747342, e9747342, hx9747342_0, hx9747342_1⟩ := at_T78 HR0.out x3_1 p9747342 q9747342; obtain rfl : ad9922068 = ad9747342 := (by injection e9747342); replace p9747342 := eq_true p9747342; replace q9747342 := eq_true q9747342) | (go_at_call 53; (with_reducible refine (spec_l2Attr.calls k1 _ _ y115 ((rd_T78 l0 x3_1).f0) tx5 _ ?side1 ?side2 Ax5.out).mono ?_); (case side1 => repeat (first | exact HR118.out | (with_reducible refine Kd.C_alloc ?_ _) | (with_reducible refine Kd.C_drewN ?_ _) | (with_reducible refine Kd.C_drew ?_))); (case side2 => exact HC118.out); rintro e w' ⟨rfl, ⟨nd, rfl⟩⟩; (try first | exact ⟨rfl, _, World.drewN_drewN _ _ _⟩ | exact ⟨rfl, _, Eq.trans (World.drewN_drewN _ _ _) (congrArg (World.drewN _) (Nat.add_assoc _ _ _))⟩)) | (go_at_call 43; (with_reducible refine (spec_l1Name.calls k1 ((rd_T78 l0 x3_1).f0) tx2 _ Ax2.out).mono ?_); rintro e w' ⟨rfl, ⟨nd, rfl⟩⟩; (try first | exact ⟨rfl, _, World.drewN_drewN _ _ _⟩ | exact ⟨rfl, _, Eq.trans (World.drewN_drewN _ _ _) (congrArg (World.drewN _) (Nat.add_assoc _ _ _))⟩); have q9890726 : (x3_1 : Int) ≤ ((l0.length : Int) : Int) := of_decide_eq_true y2_; obtain ⟨i013, hi013, _, hsz13, _⟩ := info_parts info78; have hroom13 : l0.length ≤ c0 := HC0.out; have hC13 : Kd.C k78 _ (some ad9922068) l0.length l0 := HR0.out; have hcut13 := cut_to (P := Try.prog) 46 78 .i64 Try.underlying46 hi013 (some ad9922068) l0.length c0 x3_1 (of_decide_eq_true y2_) q9890726 hroom13; have hr9890726 := Kd.C_take (m := (x3_1 : Int).toNat) hC13 (by omega); have hy9890726 : y115.length = (x3_1 : Int).toNat := (by rw [Ny115.out, List.length_take]; omega); rw [← Ny115.out] at hr9890726; rw [← hy9890726] at hcut13; have HR118 := a_ hr9890726; have HC118 := a_ (show y115.length ≤ c0 from by omega); clear hr9890726 hC13 hroom13 hi013 hsz13; have KY13 := a_ hy9890726; clear hy9890726; replace q9890726 := eq_true q9890726; have p9316237 : 0 ≤ (x3_1 : Int) := of_decide_eq_true y2_; have q9316237 : x3_1 < (l0.length : Int) := of_decide_eq_true y2_; obtain ⟨ad9316237, e9316237, hx9316237_0, hx9316237_1⟩ := at_T78 HR0.out x3_1 p9316237 q9316237; obtain rfl : ad9922068 = ad9316237 := (by injection e9316237); replace p9316237 := eq_true p9316237; replace q9316237 := eq_true q9316237) | (go_at_call 53; (with_reducible refine (spec_l2Attr.calls k1 _ _ y115 ((rd_T78 l0 x3_1).f0) tx5 _ ?side1 ?side2 Ax5.out).mono ?_); (case side1 => repeat (first | exact HR118.out | (with_reducible refine Kd.C_alloc ?_ _) | (with_reducible refine Kd.C_drewN ?_ _) | (with_reducible refine Kd.C_drew ?_))); (case side2 => exact HC118.out); rintro e w' ⟨rfl, ⟨nd, rfl⟩⟩; (try first | exact ⟨rfl, _, World.drewN_drewN _ _ _⟩ | exact ⟨rfl, _, Eq.trans (World.drewN_drewN _ _ _) (congrArg (World.drewN _) (Nat.add_assoc _ _ _))⟩); have p9401865 : 0 ≤ (x3_1 : Int) := of_decide_eq_true y2_; have q9401865 : x3_1 < (l0.length : Int) := of_decide_eq_true y2_; obtain ⟨ad9401865, e9401865, hx9401865_0, hx9401865_1⟩ := at_T78 HR0.out x3_1 p9401865 q9401865; obtain rfl : ad9922068 = ad9401865 := (by injection e9401865); replace p9401865 := eq_true p9401865; replace q9401865 := eq_true q9401865) | (go_at_call 55; (with_reducible refine (spec_l1Value.calls k1 ((rd_T78 l0 x3_1).f1) tx7 _ Ax7.out).mono ?_); rintro e w' ⟨rfl, ⟨nd, rfl⟩⟩; (try first | exact ⟨rfl, _, World.drewN_drewN _ _ _⟩ | exact ⟨rfl, _, Eq.trans (World.drewN_drewN _ _ _) (congrArg (World.drewN _) (Nat.add_assoc _ _ _))⟩)) | (go_at_call 43; (with_reducible refine (spec_l1Name.calls k1 ((rd_T78 l0 x3_1).f0) tx2 _ Ax2.out).mono ?_); rintro e w' ⟨rfl, ⟨nd, rfl⟩⟩; (try first | exact ⟨rfl, _, World.drewN_drewN _ _ _⟩ | exact ⟨rfl, _, Eq.trans (World.drewN_drewN _ _ _) (congrArg (World.drewN _) (Nat.add_assoc _ _ _))⟩); have q9890726 : (x3_1 : Int) ≤ ((l0.length : Int) : Int) := of_decide_eq_true y2_; obtain ⟨i014, hi014, _, hsz14, _⟩ := info_parts info78; have hroom14 : l0.length ≤ c0 := HC0.out; have hC14 : Kd.C k78 _ (some ad9922068) l0.length l0 := HR0.out; have hcut14 := cut_to (P := Try.prog) 46 78 .i64 Try.underlying46 hi014 (some ad9922068) l0.length c0 x3_1 (of_decide_eq_true y2_) q9890726 hroom14; have hr9890726 := Kd.C_take (m := (x3_1 : Int).toNat) hC14 (by omega); have hy9890726 : y115.length = (x3_1 : Int).toNat := (by rw [Ny115.out, List.length_take]; omega); rw [← Ny115.out] at hr9890726; rw [← hy9890726] at hcut14; have HR118 := a_ hr9890726; have HC118 := a_ (show y115.length ≤ c0 from by omega); clear hr9890726 hC14 hroom14 hi014 hsz14; have KY14 := a_ hy9890726; clear hy9890726; replace q9890726 := eq_true q9890726; have p9199965 : 0 ≤ (x3_1 : Int) := of_decide_eq_true y2_; have q9199965 : x3_1 < (l0.length : Int) := of_decide_eq_true y2_; obtain ⟨ad9199965, e9199965, hx9199965_0, hx9199965_1⟩ := at_T78 HR0.out x3_1 p9199965 q9199965; obtain rfl : ad9922068 = ad9199965 := (by injection e9199965); replace p9199965 := eq_true p9199965; replace q9199965 := eq_true q9199965) | (go_at_call 43; (with_reducible refine (spec_l1Name.calls k1 ((rd_T78 l0 x3_1).f0) tx2 _ Ax2.out).mono ?_); rintro e w' ⟨rfl, ⟨nd, rfl⟩⟩; (try first | exact ⟨rfl, _, World.drewN_drewN _ _ _⟩ | exact ⟨rfl, _, Eq.trans (World.drewN_drewN _ _ _) (congrArg (World.drewN _) (Nat.add_assoc _ _ _))⟩)))))
    first
    | fail_if_success clear m0_7
    |(clear m0_7; go_ret
      exact ⟨y3_, y6_⟩)
    first
    | fail_if_success clear m0_8
    |(clear m0_8; go_roundg k1
      case measure => have := HK1.out; omega
      case rel => exact ⟨(wrap64 (x3_1 + 1)), y3_, H', ⟨y48_⟩, y6_⟩)
    first
    | fail_if_success clear m0_9
    |(clear m0_9; go_wp2
      repeat (go_quiet (fail); try go_wp2)
      go_ret
      exact ⟨y3_, y6_⟩))

end Go.Proofs.Ytbjakfnfjndccaa.T
