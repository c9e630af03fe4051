-- Written by a program of this session's own (xp.py) for this seat.
import Derived.Test.YthoamjobclfjjaaGreatRZ
import Derived.Test.YthoamjobclfjjaaGreatR0
namespace Go.Proofs.YthoamjobclfjjaaGreat.R
open Go.RowKit Go.Proofs.YthoamjobclfjjaaGreatW.PrintWords Go.Proofs.YthoamjobclfjjaaGreatW.PrintLast Go.Proofs.YthoamjobclfjjaaGreatW.PrintMore
attribute [local go_sem] Instr.field asAgg
attribute [local go_sem] max2_int min2_int max_two min_two max_three min_three max_four min_four   -- for this text's walks alone
set_option linter.unusedVariables false
set_option linter.unusedSimpArgs false

/-! ### laws_szAttr: function 38 -/
def laws_szAttr.f (a0_0 : ByteArray) (a0_1 : ByteArray) (a1 : Int) : Option (Int) := if (wrap64 (a1 - (a0_0.size : Int))) < 0 then (some (-1)) else (if (wrap64 ((wrap64 (a1 - (a0_0.size : Int))) - (a0_1.size : Int))) < 0 then (some (-1)) else (some (wrap64 ((wrap64 (a1 - (a0_0.size : Int))) - (a0_1.size : Int)))))
set_option maxHeartbeats 8000000 in
set_option maxRecDepth 100000 in
theorem laws_szAttr.calls (a0_0 : ByteArray) (a0_1 : ByteArray) (a1 : Int) (r : Int) (w : World) (h : laws_szAttr.f a0_0 a0_1 a1 = some r) :
    Calls Tryz.prog 38 #[.agg #[.string a0_0, .string a0_1], .int .i64 a1] w fun e w' => e = .returned (.int .i64 r) ∧ Below w.heap.size w w' := by
 have hu65 := Tryz.underlying65; have HB := a_ (Below.refl w.heap.size w); have H : (if (wrap64 (a1 - (a0_0.size : Int))) < 0 then (some (-1)) else (if (wrap64 ((wrap64 (a1 - (a0_0.size : Int))) - (a0_1.size : Int))) < 0 then (some (-1)) else (some (wrap64 ((wrap64 (a1 - (a0_0.size : Int))) - (a0_1.size : Int)))))) = some r := h; clear h; by_cases cx0 : (wrap64 (a1 - (a0_0.size : Int))) < 0; rw [if_pos cx0] at H; have cx0b0 : decide ((wrap64 (a1 - (a0_0.size : Int))) < 0) = true := decide_eq_true cx0; clear cx0; obtain rfl := Option.some.inj H; rotate_left; rw [if_neg cx0] at H; have cx0b0 : decide ((wrap64 (a1 - (a0_0.size : Int))) < 0) = false := decide_eq_false cx0; clear cx0; by_cases cx1 : (wrap64 ((wrap64 (a1 - (a0_0.size : Int))) - (a0_1.size : Int))) < 0; rw [if_pos cx1] at H; have cx1b0 : decide ((wrap64 ((wrap64 (a1 - (a0_0.size : Int))) - (a0_1.size : Int))) < 0) = true := decide_eq_true cx1; clear cx1; obtain rfl := Option.some.inj H; rotate_left; rw [if_neg cx1] at H; have cx1b0 : decide ((wrap64 ((wrap64 (a1 - (a0_0.size : Int))) - (a0_1.size : Int))) < 0) = false := decide_eq_false cx1; clear cx1; obtain rfl := Option.some.inj H; rotate_left
 all_goals (
  go_enter Tryz.func38, Tryz.ntmps38
  go_wp2_with (first | ((with_reducible refine gate_dst (N := 2) rfl ?_); refine box_event zr_ (N := 2) zr_ (cs := #[.string a0_0, .string a0_1]) (t := 65) zs_ ?_; intro gb9045608 hg w9269920 hbox hb; have n0_ := a_ (below_step y0_ hb); have n1_ := a_ (hbox); have n2_ := a_ ((by rw [hg]; exact (below_size y0_) : w.heap.size ≤ gb9045608)); have n3_ := a_ ((by rw [hg]; exact (below_size y0_) : w.heap.size ≤ gb9045608)); clear HB; have HB := n0_; have BK9045608 := n1_; have GW9045608 := n2_; have GE9045608 := n3_; clear n0_ n1_ n2_ n3_; clear hb hbox hg; have hcz9044777_0 : w9269920.cell? ⟨gb9045608, 0, none⟩ = some (.string a0_0) := (blk_cell BK9045608.out 0).trans rfl; have hcz9044777_1 : w9269920.cell? ⟨gb9045608, 1, none⟩ = some (.string a0_1) := (blk_cell BK9045608.out 1).trans rfl; have hfz9044777_0 := blk_frozen BK9045608.out 0; have hfz9044777_1 := blk_frozen BK9045608.out 1))
  go_ret
  exact ⟨y6_, by repeat (first | (with_reducible first | exact HB.out | apply below_alloc | apply pw_below_drewN | apply below_drew1 | refine below_set ?_ GE9045608.out) | exact HB.out)⟩)

/-! ### laws_szAttrS: function 19 -/
def laws_szAttrS.l0 : Nat → List (S65) → Int → Int → Option (Int)
  | 0, _, _, _ => none
  | k + 1, x0, x1, x5 => if x5 < (x0.length : Int) then (if 0 ≤ x5 then ((laws_szAttr.f ((rd_T65 x0 x5).f0) ((rd_T65 x0 x5).f1) x1).bind fun t103 => (if t103 < 0 then (some (-1)) else (laws_szAttrS.l0 k x0 t103 (wrap64 (x5 + 1))))) else (none)) else (some x1)
def laws_szAttrS.f (k : Nat) (l0 : List (S65)) (a1 : Int) : Option (Int) := if (wrap64 (a1 - (l0.length : Int))) < 0 then (some (-1)) else (laws_szAttrS.l0 k l0 (wrap64 (a1 - (l0.length : Int))) 0)
theorem laws_szAttrS.mono_l : ∀ k, (∀ y0 y1 y2, LeO (laws_szAttrS.l0 k y0 y1 y2) (laws_szAttrS.l0 (k + 1) y0 y1 y2))
  | 0 => fun _ _ _ r h => by simp [laws_szAttrS.l0] at h
  | k + 1 => by
    have ih0 := laws_szAttrS.mono_l k
    · intro y0 y1 y2
      unfold laws_szAttrS.l0
      repeat' (with_reducible first | exact ih0 _ _ _ | exact LeO.refl _ | exact LeO.none _ | refine LeO.ite ?_ ?_ | refine LeO.bind ?_ (fun _ => ?_))
theorem laws_szAttrS.mono : ∀ a0 a1 k, LeO (laws_szAttrS.f k a0 a1) (laws_szAttrS.f (k + 1) a0 a1) := by
  intro a0 a1 k
  have ih0 := laws_szAttrS.mono_l k
  unfold laws_szAttrS.f
  repeat' (with_reducible first | exact ih0 _ _ _ | exact LeO.refl _ | exact LeO.none _ | refine LeO.ite ?_ ?_ | refine LeO.bind ?_ (fun _ => ?_))
set_option maxHeartbeats 8000000 in
set_option maxRecDepth 100000 in
theorem laws_szAttrS.calls (k : Nat) (A0 : Option Addr) (c0 : Nat) (l0 : List (S65)) (a1 : Int) (r : Int) (w : World) (hr0 : Kd.C k65 w A0 l0.length l0) (hc0 : l0.length ≤ c0) (h : laws_szAttrS.f k l0 a1 = some r) :
    Calls Tryz.prog 19 #[.slice A0 l0.length c0, .int .i64 a1] w fun e w' => e = .returned (.int .i64 r) ∧ Below w.heap.size w w' := by
 have hu65 := Tryz.underlying65; have HR0 := a_ hr0; have HC0 := a_ hc0; clear hr0 hc0; have HB := a_ (Below.refl w.heap.size w); have H : (if (wrap64 (a1 - (l0.length : Int))) < 0 then (some (-1)) else (laws_szAttrS.l0 k l0 (wrap64 (a1 - (l0.length : Int))) 0)) = some r := h; clear h; by_cases cx0 : (wrap64 (a1 - (l0.length : Int))) < 0
 ·rw [if_pos cx0] at H; have cx0b0 : decide ((wrap64 (a1 - (l0.length : Int))) < 0) = true := decide_eq_true cx0; clear cx0; obtain rfl := Option.some.inj H; go_enter Tryz.func19, Tryz.ntmps19
  go_wp2
  go_ret
  exact ⟨y6_, y0_⟩
 ·rw [if_neg cx0] at H; have cx0b0 : decide ((wrap64 (a1 - (l0.length : Int))) < 0) = false := decide_eq_false cx0; clear cx0; have H' := a_ H; clear H; go_enter Tryz.func19, Tryz.ntmps19
  go_wp2
  go_loopg [1, 5] k (fun kq v1 v5 w' => ∃ (x1_1 : Int) (x5_1 : Int), v1 = .int .i64 x1_1 ∧ v5 = .int .i64 x5_1 ∧ Aside0 (laws_szAttrS.l0 kq l0 x1_1 x5_1 = some r) ∧ Aside0 (kq ≤ k) ∧ Aside0 (Below w.heap.size w w'))
  case atStart => exact ⟨(wrap64 (a1 - (l0.length : Int))), (0), y2_, y2_, H', ⟨Nat.le_refl _⟩, ⟨y0_⟩⟩
  case round =>
   clear H'; (try clear cx0); (try clear cx0b0); obtain ⟨x1_1, x5_1, rfl, rfl, HA, HK1, HB⟩ := hrel; cases gk with
   | zero => exact absurd HA.out (by simp [laws_szAttrS.l0])
   | succ k1 =>
    have H := HA.out; clear HA; simp only [laws_szAttrS.l0] at H; by_cases cx1 : x5_1 < (l0.length : Int); rw [if_pos cx1] at H; have cx1b0 : decide (x5_1 < (l0.length : Int)) = true := decide_eq_true cx1; clear cx1; by_cases cx2 : 0 ≤ x5_1; rw [if_pos cx2] at H; have cx2b0 : decide (0 ≤ x5_1) = true := decide_eq_true cx2; clear cx2; replace H := Option.bind_eq_some_iff.mp H; obtain ⟨tx3, Ay3, H⟩ := H; have Ax3 := a_ Ay3; clear Ay3; by_cases cx4 : tx3 < 0; rw [if_pos cx4] at H; have cx4b0 : decide (tx3 < 0) = true := decide_eq_true cx4; clear cx4; obtain rfl := Option.some.inj H; have m1_0 := t_; have m1_1 := t_; rotate_left; rw [if_neg cx4] at H; have cx4b0 : decide (tx3 < 0) = false := decide_eq_false cx4; clear cx4; have H' := a_ H; clear H; have m1_0 := t_; have m1_2 := t_; rotate_left
    ·rw [if_neg cx2] at H; exact absurd H y50_
    rw [if_neg cx1] at H; have cx1b0 : decide (x5_1 < (l0.length : Int)) = false := decide_eq_false cx1; clear cx1; obtain rfl := Option.some.inj H; have m1_3 := t_; rotate_left
    all_goals (
     first
     | fail_if_success clear m1_0
     |(clear m1_0; have p9922068 : 0 ≤ (x5_1 : Int) := of_decide_eq_true y3_; have q9922068 : x5_1 < (l0.length : Int) := of_decide_eq_true y3_; obtain ⟨ad9922068, e9922068, hx9922068_0, hx9922068_1⟩ := at_T65 HR0.out x5_1 p9922068 q9922068; cases e9922068; replace hx9922068_0 := cT_ HB.out hx9922068_0; replace hx9922068_1 := cT_ HB.out hx9922068_1; replace p9922068 := eq_true p9922068; replace q9922068 := eq_true q9922068; go_wp2_with (first | ((with_reducible refine gate_callee (f := 38) rfl ?_); refine gc_ 38 23 Tryz.func38 #[.agg #[.string ((rd_T65 l0 x5_1).f0), .string ((rd_T65 l0 x5_1).f1)], .int .i64 x1_1] ?_; (with_reducible refine (laws_szAttr.calls ((rd_T65 l0 x5_1).f0) ((rd_T65 l0 x5_1).f1) x1_1 tx3 _ Ax3.out).mono ?_); rintro e w9584152 ⟨rfl, hb⟩; refine ⟨_, rfl, ?_⟩; have n0_ := a_ (below_step y0_ hb); clear HB; have HB := n0_; clear n0_; (try clear hb); (try clear hb9047955); (try clear hk); (try clear hi))))
     first
     | fail_if_success clear m1_1
     |(clear m1_1; go_ret
       exact ⟨y6_, y0_⟩)
     first
     | fail_if_success clear m1_2
     |(clear m1_2; go_roundg k1
       case measure => have := HK1.out; omega
       case rel => exact ⟨(tx3), (wrap64 (x5_1 + 1)), y2_, y2_, H', ⟨y29_⟩, ⟨y0_⟩⟩)
     first
     | fail_if_success clear m1_3
     |(clear m1_3; go_wp2
       go_ret
       exact ⟨y6_, y0_⟩))

/-! ### laws_szElem: function 10 -/
def laws_szElem.f (k : Nat) (a0_0 : ByteArray) (a0_1 : Int) (l0_2 : List (S65)) (a1 : Int) : Option (Int) := if (wrap64 (a1 - (a0_0.size : Int))) < 0 then (some (-1)) else ((laws_szAttrS.f k l0_2 (wrap64 (a1 - (a0_0.size : Int)))).bind fun t105 => (if t105 < 0 then (some (-1)) else (some t105)))
theorem laws_szElem.mono : ∀ a0 a1 a2 a3 k, LeO (laws_szElem.f k a0 a1 a2 a3) (laws_szElem.f (k + 1) a0 a1 a2 a3) := by
  intro a0 a1 a2 a3 k
  unfold laws_szElem.f
  repeat' (with_reducible first | exact laws_szAttrS.mono _ _ _ | exact LeO.refl _ | exact LeO.none _ | refine LeO.ite ?_ ?_ | refine LeO.bind ?_ (fun _ => ?_))
set_option maxHeartbeats 8000000 in
set_option maxRecDepth 100000 in
theorem laws_szElem.calls (k : Nat) (a0_0 : ByteArray) (a0_1 : Int) (A0_2 : Option Addr) (c0_2 : Nat) (l0_2 : List (S65)) (a1 : Int) (r : Int) (w : World) (hr0_2 : Kd.C k65 w A0_2 l0_2.length l0_2) (hc0_2 : l0_2.length ≤ c0_2) (h : laws_szElem.f k a0_0 a0_1 l0_2 a1 = some r) :
    Calls Tryz.prog 10 #[.agg #[.string a0_0, .int .i64 a0_1, .slice A0_2 l0_2.length c0_2], .int .i64 a1] w fun e w' => e = .returned (.int .i64 r) ∧ Below w.heap.size w w' := by
 have hu35 := Tryz.underlying35; have HR0_2 := a_ hr0_2; have HC0_2 := a_ hc0_2; clear hr0_2 hc0_2; have HB := a_ (Below.refl w.heap.size w); have H : (if (wrap64 (a1 - (a0_0.size : Int))) < 0 then (some (-1)) else ((laws_szAttrS.f k l0_2 (wrap64 (a1 - (a0_0.size : Int)))).bind fun t105 => (if t105 < 0 then (some (-1)) else (some t105)))) = some r := h; clear h; by_cases cx0 : (wrap64 (a1 - (a0_0.size : Int))) < 0; rw [if_pos cx0] at H; have cx0b0 : decide ((wrap64 (a1 - (a0_0.size : Int))) < 0) = true := decide_eq_true cx0; clear cx0; obtain rfl := Option.some.inj H; rotate_left; rw [if_neg cx0] at H; have cx0b0 : decide ((wrap64 (a1 - (a0_0.size : Int))) < 0) = false := decide_eq_false cx0; clear cx0; replace H := Option.bind_eq_some_iff.mp H; obtain ⟨tx1, Ay1, H⟩ := H; have Ax1 := a_ Ay1; clear Ay1; by_cases cx2 : tx1 < 0; rw [if_pos cx2] at H; have cx2b0 : decide (tx1 < 0) = true := decide_eq_true cx2; clear cx2; obtain rfl := Option.some.inj H; rotate_left; rw [if_neg cx2] at H; have cx2b0 : decide (tx1 < 0) = false := decide_eq_false cx2; clear cx2; obtain rfl := Option.some.inj H; rotate_left
 all_goals (
  go_enter Tryz.func10, Tryz.ntmps10
  go_wp2_with (first | ((with_reducible refine gate_dst (N := 2) rfl ?_); refine box_event zr_ (N := 2) zr_ (cs := #[.string a0_0, .int .i64 a0_1, .slice A0_2 l0_2.length c0_2]) (t := 35) zs_ ?_; intro gb9075183 hg w9909727 hbox hb; have n0_ := a_ (below_step y0_ hb); have n1_ := a_ (hbox); have n2_ := a_ ((by rw [hg]; exact (below_size y0_) : w.heap.size ≤ gb9075183)); have n3_ := a_ ((by rw [hg]; exact (below_size y0_) : w.heap.size ≤ gb9075183)); clear HB; have HB := n0_; have BK9075183 := n1_; have GW9075183 := n2_; have GE9075183 := n3_; clear n0_ n1_ n2_ n3_; clear hb hbox hg; have hcz9476634_0 : w9909727.cell? ⟨gb9075183, 0, none⟩ = some (.string a0_0) := (blk_cell BK9075183.out 0).trans rfl; have hcz9476634_1 : w9909727.cell? ⟨gb9075183, 1, none⟩ = some (.int .i64 a0_1) := (blk_cell BK9075183.out 1).trans rfl; have hcz9476634_2 : w9909727.cell? ⟨gb9075183, 2, none⟩ = some (.slice A0_2 l0_2.length c0_2) := (blk_cell BK9075183.out 2).trans rfl; have hfz9476634_0 := blk_frozen BK9075183.out 0; have hfz9476634_1 := blk_frozen BK9075183.out 1; have hfz9476634_2 := blk_frozen BK9075183.out 2) | ((with_reducible refine gate_callee (f := 19) rfl ?_); refine gc_ 19 15 Tryz.func19 #[.slice A0_2 l0_2.length c0_2, .int .i64 (wrap64 (a1 - (a0_0.size : Int)))] ?_; (with_reducible refine (laws_szAttrS.calls k _ _ l0_2 (wrap64 (a1 - (a0_0.size : Int))) tx1 _ ?side1 ?side2 Ax1.out).mono ?_); (case side1 => repeat (first | exact (Kd.C_below HR0_2.out HB.out) | (with_reducible refine Kd.C_alloc ?_ _) | (with_reducible refine Kd.C_drewN ?_ _) | (with_reducible refine Kd.C_drew ?_))); (case side2 => exact HC0_2.out); rintro e w9052461 ⟨rfl, hb⟩; refine ⟨_, rfl, ?_⟩; have n0_ := a_ (blk_below (g := gb9075183) (o := .cells #[.string a0_0, .int .i64 a0_1, .slice A0_2 l0_2.length c0_2] 35 (0, 0)) (by (with_reducible repeat (first | refine blk_drewN ?_ _ | refine blk_drew ?_ | refine blk_alloc ?_ _)); exact BK9075183.out) hb); have n1_ := a_ (below_step (by repeat (first | (with_reducible first | exact HB.out | apply below_alloc | apply pw_below_drewN | apply below_drew1 | refine below_set ?_ GE9075183.out) | exact HB.out)) hb); clear BK9075183; clear HB; have BK9075183 := n0_; have HB := n1_; clear n0_ n1_; (try clear hb); (try clear hb9707409); (try clear hk); (try clear hi)))
  go_ret
  exact ⟨y6_, by repeat (first | (with_reducible first | exact HB.out | apply below_alloc | apply pw_below_drewN | apply below_drew1 | refine below_set ?_ GE9075183.out) | exact HB.out)⟩)

/-! ### laws_szElemS: function 4 -/
def laws_szElemS.l0 : Nat → List (S35) → Int → Int → Option (Int)
  | 0, _, _, _ => none
  | k + 1, x0, x1, x5 => if x5 < (x0.length : Int) then (if 0 ≤ x5 then ((laws_szElem.f k ((rd_T35 x0 x5).f0) ((rd_T35 x0 x5).f1) ((rd_T35 x0 x5).f2) x1).bind fun t107 => (if t107 < 0 then (some (-1)) else (laws_szElemS.l0 k x0 t107 (wrap64 (x5 + 1))))) else (none)) else (some x1)
def laws_szElemS.f (k : Nat) (l0 : List (S35)) (a1 : Int) : Option (Int) := if (wrap64 (a1 - (l0.length : Int))) < 0 then (some (-1)) else (laws_szElemS.l0 k l0 (wrap64 (a1 - (l0.length : Int))) 0)
theorem laws_szElemS.mono_l : ∀ k, (∀ y0 y1 y2, LeO (laws_szElemS.l0 k y0 y1 y2) (laws_szElemS.l0 (k + 1) y0 y1 y2))
  | 0 => fun _ _ _ r h => by simp [laws_szElemS.l0] at h
  | k + 1 => by
    have ih0 := laws_szElemS.mono_l k
    · intro y0 y1 y2
      unfold laws_szElemS.l0
      repeat' (with_reducible first | exact ih0 _ _ _ | exact laws_szElem.mono _ _ _ _ _ | exact LeO.refl _ | exact LeO.none _ | refine LeO.ite ?_ ?_ | refine LeO.bind ?_ (fun _ => ?_))
theorem laws_szElemS.mono : ∀ a0 a1 k, LeO (laws_szElemS.f k a0 a1) (laws_szElemS.f (k + 1) a0 a1) := by
  intro a0 a1 k
  have ih0 := laws_szElemS.mono_l k
  unfold laws_szElemS.f
  repeat' (with_reducible first | exact ih0 _ _ _ | exact laws_szElem.mono _ _ _ _ _ | exact LeO.refl _ | exact LeO.none _ | refine LeO.ite ?_ ?_ | refine LeO.bind ?_ (fun _ => ?_))
set_option maxHeartbeats 8000000 in
set_option maxRecDepth 100000 in
theorem laws_szElemS.calls (k : Nat) (A0 : Option Addr) (c0 : Nat) (l0 : List (S35)) (a1 : Int) (r : Int) (w : World) (hr0 : Kd.C k35 w A0 l0.length l0) (hc0 : l0.length ≤ c0) (h : laws_szElemS.f k l0 a1 = some r) :
    Calls Tryz.prog 4 #[.slice A0 l0.length c0, .int .i64 a1] w fun e w' => e = .returned (.int .i64 r) ∧ Below w.heap.size w w' := by
 have hu35 := Tryz.underlying35; have HR0 := a_ hr0; have HC0 := a_ hc0; clear hr0 hc0; have HB := a_ (Below.refl w.heap.size w); have H : (if (wrap64 (a1 - (l0.length : Int))) < 0 then (some (-1)) else (laws_szElemS.l0 k l0 (wrap64 (a1 - (l0.length : Int))) 0)) = some r := h; clear h; by_cases cx0 : (wrap64 (a1 - (l0.length : Int))) < 0
 ·rw [if_pos cx0] at H; have cx0b0 : decide ((wrap64 (a1 - (l0.length : Int))) < 0) = true := decide_eq_true cx0; clear cx0; obtain rfl := Option.some.inj H; go_enter Tryz.func4, Tryz.ntmps4
  go_wp2
  go_ret
  exact ⟨y6_, y0_⟩
 ·rw [if_neg cx0] at H; have cx0b0 : decide ((wrap64 (a1 - (l0.length : Int))) < 0) = false := decide_eq_false cx0; clear cx0; have H' := a_ H; clear H; go_enter Tryz.func4, Tryz.ntmps4
  go_wp2
  go_loopg [1, 5] k (fun kq v1 v5 w' => ∃ (x1_1 : Int) (x5_1 : Int), v1 = .int .i64 x1_1 ∧ v5 = .int .i64 x5_1 ∧ Aside0 (laws_szElemS.l0 kq l0 x1_1 x5_1 = some r) ∧ Aside0 (kq ≤ k) ∧ Aside0 (Below w.heap.size w w'))
  case atStart => exact ⟨(wrap64 (a1 - (l0.length : Int))), (0), y2_, y2_, H', ⟨Nat.le_refl _⟩, ⟨y0_⟩⟩
  case round =>
   clear H'; (try clear cx0); (try clear cx0b0); obtain ⟨x1_1, x5_1, rfl, rfl, HA, HK1, HB⟩ := hrel; cases gk with
   | zero => exact absurd HA.out (by simp [laws_szElemS.l0])
   | succ k1 =>
    have H := HA.out; clear HA; simp only [laws_szElemS.l0] at H; by_cases cx1 : x5_1 < (l0.length : Int); rw [if_pos cx1] at H; have cx1b0 : decide (x5_1 < (l0.length : Int)) = true := decide_eq_true cx1; clear cx1; by_cases cx2 : 0 ≤ x5_1; rw [if_pos cx2] at H; have cx2b0 : decide (0 ≤ x5_1) = true := decide_eq_true cx2; clear cx2; replace H := Option.bind_eq_some_iff.mp H; obtain ⟨tx3, Ay3, H⟩ := H; have Ax3 := a_ Ay3; clear Ay3; by_cases cx4 : tx3 < 0; rw [if_pos cx4] at H; have cx4b0 : decide (tx3 < 0) = true := decide_eq_true cx4; clear cx4; obtain rfl := Option.some.inj H; have m1_0 := t_; have m1_1 := t_; rotate_left; rw [if_neg cx4] at H; have cx4b0 : decide (tx3 < 0) = false := decide_eq_false cx4; clear cx4; have H' := a_ H; clear H; have m1_0 := t_; have m1_2 := t_; rotate_left
    ·rw [if_neg cx2] at H; exact absurd H y50_
    rw [if_neg cx1] at H; have cx1b0 : decide (x5_1 < (l0.length : Int)) = false := decide_eq_false cx1; clear cx1; obtain rfl := Option.some.inj H; have m1_3 := t_; rotate_left
    all_goals (
     first
     | fail_if_success clear m1_0
     |(clear m1_0; have p9922068 : 0 ≤ (x5_1 : Int) := of_decide_eq_true y3_; have q9922068 : x5_1 < (l0.length : Int) := of_decide_eq_true y3_; obtain ⟨ad9922068, A106_2, c106_2, e9922068, hx9922068_0, hx9922068_1, hx9922068_2, hl9922068_2, hi106_2⟩ := at_T35 HR0.out x5_1 p9922068 q9922068; cases e9922068; replace hx9922068_0 := cT_ HB.out hx9922068_0; replace hx9922068_1 := cT_ HB.out hx9922068_1; replace hx9922068_2 := cT_ HB.out hx9922068_2; have HR106_2 := a_ hi106_2; have HC106_2 := a_ hl9922068_2; clear hi106_2 hl9922068_2; replace p9922068 := eq_true p9922068; replace q9922068 := eq_true q9922068; go_wp2_with (first | ((with_reducible refine gate_callee (f := 10) rfl ?_); refine gc_ 10 23 Tryz.func10 #[.agg #[.string ((rd_T35 l0 x5_1).f0), .int .i64 ((rd_T35 l0 x5_1).f1), .slice A106_2 ((rd_T35 l0 x5_1).f2).length c106_2], .int .i64 x1_1] ?_; (with_reducible refine (laws_szElem.calls k1 ((rd_T35 l0 x5_1).f0) ((rd_T35 l0 x5_1).f1) _ _ ((rd_T35 l0 x5_1).f2) x1_1 tx3 _ ?side1 ?side2 Ax3.out).mono ?_); (case side1 => repeat (first | exact (Kd.C_below HR106_2.out HB.out) | (with_reducible refine Kd.C_alloc ?_ _) | (with_reducible refine Kd.C_drewN ?_ _) | (with_reducible refine Kd.C_drew ?_))); (case side2 => exact HC106_2.out); rintro e w9015267 ⟨rfl, hb⟩; refine ⟨_, rfl, ?_⟩; have n0_ := a_ (below_step y0_ hb); clear HB; have HB := n0_; clear n0_; (try clear hb); (try clear hb9861202); (try clear hk); (try clear hi))))
     first
     | fail_if_success clear m1_1
     |(clear m1_1; go_ret
       exact ⟨y6_, y0_⟩)
     first
     | fail_if_success clear m1_2
     |(clear m1_2; go_roundg k1
       case measure => have := HK1.out; omega
       case rel => exact ⟨(tx3), (wrap64 (x5_1 + 1)), y2_, y2_, H', ⟨y29_⟩, ⟨y0_⟩⟩)
     first
     | fail_if_success clear m1_3
     |(clear m1_3; go_wp2
       go_ret
       exact ⟨y6_, y0_⟩))

/-! ### spec_l1Name: function 20 -/
def spec_l1Name.l0 : Nat → ByteArray → Int → Option (Int)
  | 0, _, _ => none
  | k + 1, x0, x3 => if x3 < (x0.size : Int) then (if 0 ≤ x3 then (if (bt x0 x3) < 97 then (some 5) else (if (bt x0 x3) > 122 then (some 5) else (spec_l1Name.l0 k x0 (wrap64 (x3 + 1))))) else (none)) else (if x0.toList = ([] : List UInt8) then (some 5) else (if (x0.size : Int) > 8 then (some 2) else (some 0)))
def spec_l1Name.f (k : Nat) (a0 : ByteArray) : Option (Int) := spec_l1Name.l0 k a0 0
theorem spec_l1Name.mono_l : ∀ k, (∀ y0 y1, LeO (spec_l1Name.l0 k y0 y1) (spec_l1Name.l0 (k + 1) y0 y1))
  | 0 => fun _ _ r h => by simp [spec_l1Name.l0] at h
  | k + 1 => by
    have ih0 := spec_l1Name.mono_l k
    · intro y0 y1
      unfold spec_l1Name.l0
      repeat' (with_reducible first | exact ih0 _ _ | exact LeO.refl _ | exact LeO.none _ | refine LeO.ite ?_ ?_ | refine LeO.bind ?_ (fun _ => ?_))
theorem spec_l1Name.mono : ∀ a0 k, LeO (spec_l1Name.f k a0) (spec_l1Name.f (k + 1) a0) := by
  intro a0 k
  have ih0 := spec_l1Name.mono_l k
  unfold spec_l1Name.f
  repeat' (with_reducible first | exact ih0 _ _ | exact LeO.refl _ | exact LeO.none _ | refine LeO.ite ?_ ?_ | refine LeO.bind ?_ (fun _ => ?_))
set_option maxHeartbeats 8000000 in
set_option maxRecDepth 100000 in
theorem spec_l1Name.calls (k : Nat) (a0 : ByteArray) (r : Int) (w : World) (h : spec_l1Name.f k a0 = some r) :
    Calls Tryz.prog 20 #[.string a0] w fun e w' => e = .returned (.int .i64 r) ∧ Drawn0 w w' := by
 have H : (spec_l1Name.l0 k a0 0) = some r := h; clear h; have H' := a_ H; clear H; go_enter Tryz.func20, Tryz.ntmps20
 go_wp2
 go_loopg [3] k (fun kq v3 w' => ∃ (x3_1 : Int), v3 = .int .i64 x3_1 ∧ Aside0 (spec_l1Name.l0 kq a0 x3_1 = some r) ∧ Aside0 (kq ≤ k) ∧ Drawn0 w w')
 case atStart => exact ⟨(0), y2_, H', ⟨Nat.le_refl _⟩, y5_⟩
 case round =>
  clear H'; obtain ⟨x3_1, rfl, HA, HK1, ⟨m1, rfl⟩⟩ := hrel; cases gk with
  | zero => exact absurd HA.out (by simp [spec_l1Name.l0])
  | succ k1 =>
   have H := HA.out; clear HA; simp only [spec_l1Name.l0] at H; by_cases cx0 : x3_1 < (a0.size : Int); rw [if_pos cx0] at H; have cx0b0 : decide (x3_1 < (a0.size : Int)) = true := decide_eq_true cx0; clear cx0; by_cases cx1 : 0 ≤ x3_1; rw [if_pos cx1] at H; have cx1b0 : decide (0 ≤ x3_1) = true := decide_eq_true cx1; clear cx1; by_cases cx2 : (bt a0 x3_1) < 97; rw [if_pos cx2] at H; have cx2b0 : decide ((bt a0 x3_1) < 97) = true := decide_eq_true cx2; clear cx2; obtain rfl := Option.some.inj H; have m0_0 := t_; have m0_1 := t_; rotate_left; rw [if_neg cx2] at H; have cx2b0 : decide ((bt a0 x3_1) < 97) = false := decide_eq_false cx2; clear cx2; by_cases cx3 : (bt a0 x3_1) > 122; rw [if_pos cx3] at H; have cx3b0 : decide (122 < (bt a0 x3_1)) = true := decide_eq_true cx3; clear cx3; obtain rfl := Option.some.inj H; have m0_0 := t_; have m0_2 := t_; have m0_3 := t_; rotate_left; rw [if_neg cx3] at H; have cx3b0 : decide (122 < (bt a0 x3_1)) = false := decide_eq_false cx3; clear cx3; have H' := a_ H; clear H; have m0_0 := t_; have m0_2 := t_; have m0_4 := t_; rotate_left
   ·rw [if_neg cx1] at H; exact absurd H y50_
   rw [if_neg cx0] at H; have cx0b0 : decide (x3_1 < (a0.size : Int)) = false := decide_eq_false cx0; clear cx0; by_cases cx1 : a0.toList = ([] : List UInt8); rw [if_pos cx1] at H; have cx1b0 : (a0.toList == ([] : List UInt8)) = true := beq_iff_eq.mpr cx1; have cx1b1 : (a0.toList != ([] : List UInt8)) = false := bne_eq_false_iff_eq.mpr cx1; clear cx1; obtain rfl := Option.some.inj H; have m0_5 := t_; rotate_left; rw [if_neg cx1] at H; have cx1b0 : (a0.toList == ([] : List UInt8)) = false := beq_eq_false_iff_ne.mpr cx1; have cx1b1 : (a0.toList != ([] : List UInt8)) = true := bne_iff_ne.mpr cx1; by_cases cx2 : (a0.size : Int) > 8; rw [if_pos cx2] at H; have cx2b0 : decide (8 < (a0.size : Int)) = true := decide_eq_true cx2; have cx2b1 : decide (8 < a0.size) = true := decide_eq_true (by omega); clear cx2; obtain rfl := Option.some.inj H; have m0_6 := t_; rotate_left; rw [if_neg cx2] at H; have cx2b0 : decide (8 < (a0.size : Int)) = false := decide_eq_false cx2; have cx2b1 : decide (8 < a0.size) = false := decide_eq_false (by omega); clear cx2; obtain rfl := Option.some.inj H; have m0_7 := t_; rotate_left
   all_goals (
    first
    | fail_if_success clear m0_0
    |(clear m0_0; have p9922068 : 0 ≤ (x3_1 : Int) := of_decide_eq_true y3_; have q9922068 : x3_1 < (a0.size : Int) := of_decide_eq_true y3_; have hx9922068 := bt_at a0 x3_1; replace p9922068 := eq_true p9922068; replace q9922068 := eq_true q9922068)
    first
    | fail_if_success clear m0_1
    |(clear m0_1; go_wp2
      go_ret
      exact ⟨y2_, y5_⟩)
    first
    | fail_if_success clear m0_2
    |(clear m0_2; have p9548309 : 0 ≤ (x3_1 : Int) := of_decide_eq_true y3_; have q9548309 : x3_1 < (a0.size : Int) := of_decide_eq_true y3_; have hx9548309 := bt_at a0 x3_1; replace p9548309 := eq_true p9548309; replace q9548309 := eq_true q9548309; go_wp2)
    first
    | fail_if_success clear m0_3
    |(clear m0_3; go_ret
      exact ⟨y2_, y5_⟩)
    first
    | fail_if_success clear m0_4
    |(clear m0_4; go_roundg k1
      case measure => have := HK1.out; omega
      case rel => exact ⟨(wrap64 (x3_1 + 1)), y2_, H', ⟨y29_⟩, y5_⟩)
    first
    | fail_if_success clear m0_5
    |(clear m0_5; go_wp2
      go_ret
      exact ⟨y2_, y5_⟩)
    first
    | fail_if_success clear m0_6
    |(clear m0_6; go_wp2
      go_ret
      exact ⟨y2_, y5_⟩)
    first
    | fail_if_success clear m0_7
    |(clear m0_7; go_wp2
      go_ret
      exact ⟨y2_, y5_⟩))

/-! ### spec_l1In: function 21 -/
def spec_l1In.f (a0 : Int) (a1 : Int) (a2 : Int) : Option (Bool) := if a0 ≥ a1 then (some (decide (a0 ≤ a2))) else (some false)
set_option maxHeartbeats 8000000 in
set_option maxRecDepth 100000 in
theorem spec_l1In.calls (a0 : Int) (a1 : Int) (a2 : Int) (r : Bool) (w : World) (h : spec_l1In.f a0 a1 a2 = some r) :
    Calls Tryz.prog 21 #[.int .i64 a0, .int .i64 a1, .int .i64 a2] w fun e w' => e = .returned (.bool r) ∧ Drawn0 w w' := by
 have H : (if a0 ≥ a1 then (some (decide (a0 ≤ a2))) else (some false)) = some r := h; clear h; by_cases c4 : a0 ≥ a1
 ·rw [if_pos c4] at H; have c4b0 : decide (a1 ≤ a0) = true := decide_eq_true c4; clear c4; obtain rfl := Option.some.inj H; go_enter Tryz.func21, Tryz.ntmps21
  go_wp2
  go_ret
  exact ⟨y2_, y5_⟩
 ·rw [if_neg c4] at H; have c4b0 : decide (a1 ≤ a0) = false := decide_eq_false c4; clear c4; obtain rfl := Option.some.inj H; go_enter Tryz.func21, Tryz.ntmps21
  go_wp2
  go_ret
  exact ⟨y2_, y5_⟩

/-! ### spec_l2Line: function 22 -/
def spec_l2Line.l0 : Nat → List (S40) → Int → Int → Option (Bool)
  | 0, _, _, _ => none
  | k + 1, x0, x1, x5 => if x5 ≥ 0 then (if 0 ≤ x1 then (if x1 < (x0.length : Int) then (if x5 = ((rd_T40 x0 x1).f1) then (some true) else (if 0 ≤ x5 then (if x5 < (x0.length : Int) then (spec_l2Line.l0 k x0 x1 ((rd_T40 x0 x5).f1)) else (none)) else (none))) else (none)) else (none)) else (some false)
def spec_l2Line.f (k : Nat) (l0 : List (S40)) (a1 : Int) : Option (Bool) := spec_l2Line.l0 k l0 a1 (wrap64 (a1 - 1))
theorem spec_l2Line.mono_l : ∀ k, (∀ y0 y1 y2, LeO (spec_l2Line.l0 k y0 y1 y2) (spec_l2Line.l0 (k + 1) y0 y1 y2))
  | 0 => fun _ _ _ r h => by simp [spec_l2Line.l0] at h
  | k + 1 => by
    have ih0 := spec_l2Line.mono_l k
    · intro y0 y1 y2
      unfold spec_l2Line.l0
      repeat' (with_reducible first | exact ih0 _ _ _ | exact LeO.refl _ | exact LeO.none _ | refine LeO.ite ?_ ?_ | refine LeO.bind ?_ (fun _ => ?_))
theorem spec_l2Line.mono : ∀ a0 a1 k, LeO (spec_l2Line.f k a0 a1) (spec_l2Line.f (k + 1) a0 a1) := by
  intro a0 a1 k
  have ih0 := spec_l2Line.mono_l k
  unfold spec_l2Line.f
  repeat' (with_reducible first | exact ih0 _ _ _ | exact LeO.refl _ | exact LeO.none _ | refine LeO.ite ?_ ?_ | refine LeO.bind ?_ (fun _ => ?_))
set_option maxHeartbeats 8000000 in
set_option maxRecDepth 100000 in
theorem spec_l2Line.calls (k : Nat) (A0 : Option Addr) (c0 : Nat) (l0 : List (S40)) (a1 : Int) (r : Bool) (w : World) (hr0 : Kd.C k40 w A0 l0.length l0) (hc0 : l0.length ≤ c0) (h : spec_l2Line.f k l0 a1 = some r) :
    Calls Tryz.prog 22 #[.slice A0 l0.length c0, .int .i64 a1] w fun e w' => e = .returned (.bool r) ∧ Drawn0 w w' := by
 have HR0 := a_ hr0; have HC0 := a_ hc0; clear hr0 hc0; have H : (spec_l2Line.l0 k l0 a1 (wrap64 (a1 - 1))) = some r := h; clear h; have H' := a_ H; clear H; go_enter Tryz.func22, Tryz.ntmps22
 go_wp2
 go_loopg [5] k (fun kq v5 w' => ∃ (x5_1 : Int), v5 = .int .i64 x5_1 ∧ Aside0 (spec_l2Line.l0 kq l0 a1 x5_1 = some r) ∧ Aside0 (kq ≤ k) ∧ Drawn0 w w')
 case atStart => exact ⟨(wrap64 (a1 - 1)), y2_, H', ⟨Nat.le_refl _⟩, y5_⟩
 case round =>
  clear H'; obtain ⟨x5_1, rfl, HA, HK1, ⟨m1, rfl⟩⟩ := hrel; cases gk with
  | zero => exact absurd HA.out (by simp [spec_l2Line.l0])
  | succ k1 =>
   have H := HA.out; clear HA; simp only [spec_l2Line.l0] at H; by_cases cx0 : x5_1 ≥ 0; rw [if_pos cx0] at H; have cx0b0 : decide (0 ≤ x5_1) = true := decide_eq_true cx0; clear cx0; by_cases cx1 : 0 ≤ a1; rw [if_pos cx1] at H; have cx1b0 : decide (0 ≤ a1) = true := decide_eq_true cx1; clear cx1; by_cases cx2 : a1 < (l0.length : Int); rw [if_pos cx2] at H; have cx2b0 : decide (a1 < (l0.length : Int)) = true := decide_eq_true cx2; clear cx2; by_cases cx3 : x5_1 = ((rd_T40 l0 a1).f1); rw [if_pos cx3] at H; have cx3b0 : (x5_1 == ((rd_T40 l0 a1).f1)) = true := beq_iff_eq.mpr cx3; have cx3b1 : (x5_1 != ((rd_T40 l0 a1).f1)) = false := bne_eq_false_iff_eq.mpr cx3; clear cx3; obtain rfl := Option.some.inj H; have m0_0 := t_; have m0_1 := t_; rotate_left; rw [if_neg cx3] at H; have cx3b0 : (x5_1 == ((rd_T40 l0 a1).f1)) = false := beq_eq_false_iff_ne.mpr cx3; have cx3b1 : (x5_1 != ((rd_T40 l0 a1).f1)) = true := bne_iff_ne.mpr cx3; by_cases cx4 : 0 ≤ x5_1; rw [if_pos cx4] at H; have cx4b0 : decide (0 ≤ x5_1) = true := decide_eq_true cx4; clear cx4; by_cases cx5 : x5_1 < (l0.length : Int); rw [if_pos cx5] at H; have cx5b0 : decide (x5_1 < (l0.length : Int)) = true := decide_eq_true cx5; clear cx5; have H' := a_ H; clear H; have m0_0 := t_; have m0_2 := t_; rotate_left
   ·rw [if_neg cx5] at H; exact absurd H y50_
   ·rw [if_neg cx4] at H; exact absurd H y50_
   ·rw [if_neg cx2] at H; exact absurd H y50_
   ·rw [if_neg cx1] at H; exact absurd H y50_
   rw [if_neg cx0] at H; have cx0b0 : decide (0 ≤ x5_1) = false := decide_eq_false cx0; clear cx0; obtain rfl := Option.some.inj H; have m0_3 := t_; rotate_left
   all_goals (
    first
    | fail_if_success clear m0_0
    |(clear m0_0; have p9922068 : 0 ≤ (a1 : Int) := of_decide_eq_true y3_; have q9922068 : a1 < (l0.length : Int) := of_decide_eq_true y3_; obtain ⟨ad9922068, A108_2, c108_2, e9922068, hx9922068_0, hx9922068_1, hx9922068_2, hl9922068_2, hi108_2⟩ := at_T40 HR0.out a1 p9922068 q9922068; cases e9922068; have HR108_2 := a_ hi108_2; have HC108_2 := a_ hl9922068_2; clear hi108_2 hl9922068_2; replace p9922068 := eq_true p9922068; replace q9922068 := eq_true q9922068)
    first
    | fail_if_success clear m0_1
    |(clear m0_1; go_wp2
      go_ret
      exact ⟨y2_, y5_⟩)
    first
    | fail_if_success clear m0_2
    |(clear m0_2; have p9548309 : 0 ≤ (x5_1 : Int) := of_decide_eq_true y3_; have q9548309 : x5_1 < (l0.length : Int) := of_decide_eq_true y3_; obtain ⟨ad9548309, A109_2, c109_2, e9548309, hx9548309_0, hx9548309_1, hx9548309_2, hl9548309_2, hi109_2⟩ := at_T40 HR0.out x5_1 p9548309 q9548309; obtain rfl : ad9922068 = ad9548309 := (by injection e9548309); have HR109_2 := a_ hi109_2; have HC109_2 := a_ hl9548309_2; clear hi109_2 hl9548309_2; replace p9548309 := eq_true p9548309; replace q9548309 := eq_true q9548309; go_wp2
      go_roundg k1
      case measure => have := HK1.out; omega
      case rel => exact ⟨((rd_T40 l0 x5_1).f1), y2_, H', ⟨y29_⟩, y5_⟩)
    first
    | fail_if_success clear m0_3
    |(clear m0_3; go_wp2
      go_ret
      exact ⟨y2_, y5_⟩))

/-! ### spec_l2Deep: function 23 -/
def spec_l2Deep.l0 : Nat → List (S40) → Int → Int → Option (Int)
  | 0, _, _, _ => none
  | k + 1, x0, x1, x5 => if x1 ≥ 0 then (if x5 < 50 then (if 0 ≤ x1 then (if x1 < (x0.length : Int) then (spec_l2Deep.l0 k x0 ((rd_T40 x0 x1).f1) (wrap64 (x5 + 1))) else (none)) else (none)) else (some x5)) else (some x5)
def spec_l2Deep.f (k : Nat) (l0 : List (S40)) (a1 : Int) : Option (Int) := spec_l2Deep.l0 k l0 a1 0
theorem spec_l2Deep.mono_l : ∀ k, (∀ y0 y1 y2, LeO (spec_l2Deep.l0 k y0 y1 y2) (spec_l2Deep.l0 (k + 1) y0 y1 y2))
  | 0 => fun _ _ _ r h => by simp [spec_l2Deep.l0] at h
  | k + 1 => by
    have ih0 := spec_l2Deep.mono_l k
    · intro y0 y1 y2
      unfold spec_l2Deep.l0
      repeat' (with_reducible first | exact ih0 _ _ _ | exact LeO.refl _ | exact LeO.none _ | refine LeO.ite ?_ ?_ | refine LeO.bind ?_ (fun _ => ?_))
theorem spec_l2Deep.mono : ∀ a0 a1 k, LeO (spec_l2Deep.f k a0 a1) (spec_l2Deep.f (k + 1) a0 a1) := by
  intro a0 a1 k
  have ih0 := spec_l2Deep.mono_l k
  unfold spec_l2Deep.f
  repeat' (with_reducible first | exact ih0 _ _ _ | exact LeO.refl _ | exact LeO.none _ | refine LeO.ite ?_ ?_ | refine LeO.bind ?_ (fun _ => ?_))
set_option maxHeartbeats 8000000 in
set_option maxRecDepth 100000 in
theorem spec_l2Deep.calls (k : Nat) (A0 : Option Addr) (c0 : Nat) (l0 : List (S40)) (a1 : Int) (r : Int) (w : World) (hr0 : Kd.C k40 w A0 l0.length l0) (hc0 : l0.length ≤ c0) (h : spec_l2Deep.f k l0 a1 = some r) :
    Calls Tryz.prog 23 #[.slice A0 l0.length c0, .int .i64 a1] w fun e w' => e = .returned (.int .i64 r) ∧ Drawn0 w w' := by
 have HR0 := a_ hr0; have HC0 := a_ hc0; clear hr0 hc0; have H : (spec_l2Deep.l0 k l0 a1 0) = some r := h; clear h; have H' := a_ H; clear H; go_enter Tryz.func23, Tryz.ntmps23
 go_wp2
 go_loopg [1, 5] k (fun kq v1 v5 w' => ∃ (x1_1 : Int) (x5_1 : Int), v1 = .int .i64 x1_1 ∧ v5 = .int .i64 x5_1 ∧ Aside0 (spec_l2Deep.l0 kq l0 x1_1 x5_1 = some r) ∧ Aside0 (kq ≤ k) ∧ Drawn0 w w')
 case atStart => exact ⟨(a1), (0), y2_, y2_, H', ⟨Nat.le_refl _⟩, y5_⟩
 case round =>
  clear H'; obtain ⟨x1_1, x5_1, rfl, rfl, HA, HK1, ⟨m1, rfl⟩⟩ := hrel; cases gk with
  | zero => exact absurd HA.out (by simp [spec_l2Deep.l0])
  | succ k1 =>
   have H := HA.out; clear HA; simp only [spec_l2Deep.l0] at H; by_cases c3 : x1_1 ≥ 0
   ·rw [if_pos c3] at H; have c3b0 : decide (0 ≤ x1_1) = true := decide_eq_true c3; clear c3; by_cases c4 : x5_1 < 50
    ·rw [if_pos c4] at H; have c4b0 : decide (x5_1 < 50) = true := decide_eq_true c4; clear c4; by_cases c5 : 0 ≤ x1_1
     ·rw [if_pos c5] at H; have c5b0 : decide (0 ≤ x1_1) = true := decide_eq_true c5; clear c5; by_cases c6 : x1_1 < (l0.length : Int)
      ·rw [if_pos c6] at H; have c6b0 : decide (x1_1 < (l0.length : Int)) = true := decide_eq_true c6; clear c6; have H' := a_ H; clear H; have p110 : 0 ≤ (x1_1 : Int) := of_decide_eq_true y3_; have q110 : x1_1 < (l0.length : Int) := of_decide_eq_true y3_; obtain ⟨ad110, A110_2, c110_2, e110, hx110_0, hx110_1, hx110_2, hl110_2, hi110_2⟩ := at_T40 HR0.out x1_1 p110 q110; cases e110; have HR110_2 := a_ hi110_2; have HC110_2 := a_ hl110_2; clear hi110_2 hl110_2; replace p110 := eq_true p110; replace q110 := eq_true q110; go_wp2
       go_roundg k1
       case measure => have := HK1.out; omega
       case rel => exact ⟨((rd_T40 l0 x1_1).f1), (wrap64 (x5_1 + 1)), y2_, y2_, H', ⟨y29_⟩, y5_⟩
      ·rw [if_neg c6] at H; exact absurd H y50_
     ·rw [if_neg c5] at H; exact absurd H y50_
    ·rw [if_neg c4] at H; have c4b0 : decide (x5_1 < 50) = false := decide_eq_false c4; clear c4; obtain rfl := Option.some.inj H; go_wp2
     go_ret
     exact ⟨y2_, y5_⟩
   ·rw [if_neg c3] at H; have c3b0 : decide (0 ≤ x1_1) = false := decide_eq_false c3; clear c3; obtain rfl := Option.some.inj H; go_wp2
    go_ret
    exact ⟨y2_, y5_⟩

/-! ### spec_l2Attr: function 39 -/
def spec_l2Attr.l0 : Nat → List (S51) → ByteArray → Int → Option (Int)
  | 0, _, _, _ => none
  | k + 1, x0, x1, x5 => if x5 < (x0.length : Int) then (if 0 ≤ x5 then (if ((rd_T51 x0 x5).f0).toList = x1.toList then (some x5) else (spec_l2Attr.l0 k x0 x1 (wrap64 (x5 + 1)))) else (none)) else (some (-1))
def spec_l2Attr.f (k : Nat) (l0 : List (S51)) (a1 : ByteArray) : Option (Int) := spec_l2Attr.l0 k l0 a1 0
theorem spec_l2Attr.mono_l : ∀ k, (∀ y0 y1 y2, LeO (spec_l2Attr.l0 k y0 y1 y2) (spec_l2Attr.l0 (k + 1) y0 y1 y2))
  | 0 => fun _ _ _ r h => by simp [spec_l2Attr.l0] at h
  | k + 1 => by
    have ih0 := spec_l2Attr.mono_l k
    · intro y0 y1 y2
      unfold spec_l2Attr.l0
      repeat' (with_reducible first | exact ih0 _ _ _ | exact LeO.refl _ | exact LeO.none _ | refine LeO.ite ?_ ?_ | refine LeO.bind ?_ (fun _ => ?_))
theorem spec_l2Attr.mono : ∀ a0 a1 k, LeO (spec_l2Attr.f k a0 a1) (spec_l2Attr.f (k + 1) a0 a1) := by
  intro a0 a1 k
  have ih0 := spec_l2Attr.mono_l k
  unfold spec_l2Attr.f
  repeat' (with_reducible first | exact ih0 _ _ _ | exact LeO.refl _ | exact LeO.none _ | refine LeO.ite ?_ ?_ | refine LeO.bind ?_ (fun _ => ?_))
set_option maxHeartbeats 8000000 in
set_option maxRecDepth 100000 in
theorem spec_l2Attr.calls (k : Nat) (A0 : Option Addr) (c0 : Nat) (l0 : List (S51)) (a1 : ByteArray) (r : Int) (w : World) (hr0 : Kd.C k51 w A0 l0.length l0) (hc0 : l0.length ≤ c0) (h : spec_l2Attr.f k l0 a1 = some r) :
    Calls Tryz.prog 39 #[.slice A0 l0.length c0, .string a1] w fun e w' => e = .returned (.int .i64 r) ∧ Drawn0 w w' := by
 have HR0 := a_ hr0; have HC0 := a_ hc0; clear hr0 hc0; have H : (spec_l2Attr.l0 k l0 a1 0) = some r := h; clear h; have H' := a_ H; clear H; go_enter Tryz.func39, Tryz.ntmps39
 go_wp2
 go_loopg [5] k (fun kq v5 w' => ∃ (x5_1 : Int), v5 = .int .i64 x5_1 ∧ Aside0 (spec_l2Attr.l0 kq l0 a1 x5_1 = some r) ∧ Aside0 (kq ≤ k) ∧ Drawn0 w w')
 case atStart => exact ⟨(0), y2_, H', ⟨Nat.le_refl _⟩, y5_⟩
 case round =>
  clear H'; obtain ⟨x5_1, rfl, HA, HK1, ⟨m1, rfl⟩⟩ := hrel; cases gk with
  | zero => exact absurd HA.out (by simp [spec_l2Attr.l0])
  | succ k1 =>
   have H := HA.out; clear HA; simp only [spec_l2Attr.l0] at H; by_cases c3 : x5_1 < (l0.length : Int)
   ·rw [if_pos c3] at H; have c3b0 : decide (x5_1 < (l0.length : Int)) = true := decide_eq_true c3; clear c3; by_cases c4 : 0 ≤ x5_1
    ·rw [if_pos c4] at H; have c4b0 : decide (0 ≤ x5_1) = true := decide_eq_true c4; clear c4; by_cases c5 : ((rd_T51 l0 x5_1).f0).toList = a1.toList
     ·rw [if_pos c5] at H; have c5b0 : (((rd_T51 l0 x5_1).f0).toList == a1.toList) = true := beq_iff_eq.mpr c5; have c5b1 : (((rd_T51 l0 x5_1).f0).toList != a1.toList) = false := bne_eq_false_iff_eq.mpr c5; clear c5; obtain rfl := Option.some.inj H; have p111 : 0 ≤ (x5_1 : Int) := of_decide_eq_true y3_; have q111 : x5_1 < (l0.length : Int) := of_decide_eq_true y3_; obtain ⟨ad111, e111, hx111_0, hx111_1⟩ := at_T51 HR0.out x5_1 p111 q111; cases e111; replace p111 := eq_true p111; replace q111 := eq_true q111; go_wp2
      go_ret
      exact ⟨y2_, y5_⟩
     ·rw [if_neg c5] at H; have c5b0 : (((rd_T51 l0 x5_1).f0).toList == a1.toList) = false := beq_eq_false_iff_ne.mpr c5; have c5b1 : (((rd_T51 l0 x5_1).f0).toList != a1.toList) = true := bne_iff_ne.mpr c5; have H' := a_ H; clear H; have p111 : 0 ≤ (x5_1 : Int) := of_decide_eq_true y3_; have q111 : x5_1 < (l0.length : Int) := of_decide_eq_true y3_; obtain ⟨ad111, e111, hx111_0, hx111_1⟩ := at_T51 HR0.out x5_1 p111 q111; cases e111; replace p111 := eq_true p111; replace q111 := eq_true q111; go_wp2
      go_roundg k1
      case measure => have := HK1.out; omega
      case rel => exact ⟨(wrap64 (x5_1 + 1)), y2_, H', ⟨y29_⟩, y5_⟩
    ·rw [if_neg c4] at H; exact absurd H y50_
   ·rw [if_neg c3] at H; have c3b0 : decide (x5_1 < (l0.length : Int)) = false := decide_eq_false c3; clear c3; obtain rfl := Option.some.inj H; go_wp2
    go_ret
    exact ⟨y2_, y5_⟩

/-! ### spec_l1Plain: function 49 -/
def spec_l1Plain.f (a0 : Int) : Option (Bool) := if a0 ≥ 32 then (some (decide (a0 ≤ 126))) else (some false)
set_option maxHeartbeats 8000000 in
set_option maxRecDepth 100000 in
theorem spec_l1Plain.calls (a0 : Int) (r : Bool) (w : World) (h : spec_l1Plain.f a0 = some r) :
    Calls Tryz.prog 49 #[.int .u8 a0] w fun e w' => e = .returned (.bool r) ∧ Drawn0 w w' := by
 have H : (if a0 ≥ 32 then (some (decide (a0 ≤ 126))) else (some false)) = some r := h; clear h; by_cases c2 : a0 ≥ 32
 ·rw [if_pos c2] at H; have c2b0 : decide (32 ≤ a0) = true := decide_eq_true c2; clear c2; obtain rfl := Option.some.inj H; go_enter Tryz.func49, Tryz.ntmps49
  go_wp2
  go_ret
  exact ⟨y2_, y5_⟩
 ·rw [if_neg c2] at H; have c2b0 : decide (32 ≤ a0) = false := decide_eq_false c2; clear c2; obtain rfl := Option.some.inj H; go_enter Tryz.func49, Tryz.ntmps49
  go_wp2
  go_ret
  exact ⟨y2_, y5_⟩

/-! ### spec_l1Value: function 40 -/
def spec_l1Value.l0 : Nat → ByteArray → Int → Option (Int)
  | 0, _, _ => none
  | k + 1, x0, x3 => if x3 < (x0.size : Int) then (if 0 ≤ x3 then ((spec_l1Plain.f (bt x0 x3)).bind fun t112 => (if t112 = true then (spec_l1Value.l0 k x0 (wrap64 (x3 + 1))) else (some 5))) else (none)) else (some 0)
def spec_l1Value.f (k : Nat) (a0 : ByteArray) : Option (Int) := if (a0.size : Int) > 40 then (some 2) else (spec_l1Value.l0 k a0 0)
theorem spec_l1Value.mono_l : ∀ k, (∀ y0 y1, LeO (spec_l1Value.l0 k y0 y1) (spec_l1Value.l0 (k + 1) y0 y1))
  | 0 => fun _ _ r h => by simp [spec_l1Value.l0] at h
  | k + 1 => by
    have ih0 := spec_l1Value.mono_l k
    · intro y0 y1
      unfold spec_l1Value.l0
      repeat' (with_reducible first | exact ih0 _ _ | exact LeO.refl _ | exact LeO.none _ | refine LeO.ite ?_ ?_ | refine LeO.bind ?_ (fun _ => ?_))
theorem spec_l1Value.mono : ∀ a0 k, LeO (spec_l1Value.f k a0) (spec_l1Value.f (k + 1) a0) := by
  intro a0 k
  have ih0 := spec_l1Value.mono_l k
  unfold spec_l1Value.f
  repeat' (with_reducible first | exact ih0 _ _ | exact LeO.refl _ | exact LeO.none _ | refine LeO.ite ?_ ?_ | refine LeO.bind ?_ (fun _ => ?_))
set_option maxHeartbeats 8000000 in
set_option maxRecDepth 100000 in
theorem spec_l1Value.calls (k : Nat) (a0 : ByteArray) (r : Int) (w : World) (h : spec_l1Value.f k a0 = some r) :
    Calls Tryz.prog 40 #[.string a0] w fun e w' => e = .returned (.int .i64 r) ∧ Drawn0 w w' := by
 have H : (if (a0.size : Int) > 40 then (some 2) else (spec_l1Value.l0 k a0 0)) = some r := h; clear h; by_cases cx0 : (a0.size : Int) > 40
 ·rw [if_pos cx0] at H; have cx0b0 : decide (40 < (a0.size : Int)) = true := decide_eq_true cx0; have cx0b1 : decide (40 < a0.size) = true := decide_eq_true (by omega); clear cx0; obtain rfl := Option.some.inj H; go_enter Tryz.func40, Tryz.ntmps40
  go_wp2
  go_ret
  exact ⟨y2_, y5_⟩
 ·rw [if_neg cx0] at H; have cx0b0 : decide (40 < (a0.size : Int)) = false := decide_eq_false cx0; have cx0b1 : decide (40 < a0.size) = false := decide_eq_false (by omega); clear cx0; have H' := a_ H; clear H; go_enter Tryz.func40, Tryz.ntmps40
  go_wp2
  go_loopg [3] k (fun kq v3 w' => ∃ (x3_1 : Int), v3 = .int .i64 x3_1 ∧ Aside0 (spec_l1Value.l0 kq a0 x3_1 = some r) ∧ Aside0 (kq ≤ k) ∧ Drawn0 w w')
  case atStart => exact ⟨(0), y2_, H', ⟨Nat.le_refl _⟩, y5_⟩
  case round =>
   clear H'; (try clear cx0); (try clear cx0b0); (try clear cx0b1); obtain ⟨x3_1, rfl, HA, HK1, ⟨m1, rfl⟩⟩ := hrel; cases gk with
   | zero => exact absurd HA.out (by simp [spec_l1Value.l0])
   | succ k1 =>
    have H := HA.out; clear HA; simp only [spec_l1Value.l0] at H; by_cases cx1 : x3_1 < (a0.size : Int); rw [if_pos cx1] at H; have cx1b0 : decide (x3_1 < (a0.size : Int)) = true := decide_eq_true cx1; clear cx1; by_cases cx2 : 0 ≤ x3_1; rw [if_pos cx2] at H; have cx2b0 : decide (0 ≤ x3_1) = true := decide_eq_true cx2; clear cx2; replace H := Option.bind_eq_some_iff.mp H; obtain ⟨tx3, Ay3, H⟩ := H; have Ax3 := a_ Ay3; clear Ay3; by_cases cx4 : tx3 = true; subst cx4; rw [if_pos rfl] at H; have H' := a_ H; clear H; have m1_0 := t_; have m1_1 := t_; rotate_left; replace cx4 := Bool.eq_false_iff.mpr cx4; subst cx4; rw [if_neg (show ¬ (false = true) by decide)] at H; obtain rfl := Option.some.inj H; have m1_0 := t_; have m1_2 := t_; rotate_left
    ·rw [if_neg cx2] at H; exact absurd H y50_
    rw [if_neg cx1] at H; have cx1b0 : decide (x3_1 < (a0.size : Int)) = false := decide_eq_false cx1; clear cx1; obtain rfl := Option.some.inj H; have m1_3 := t_; rotate_left
    all_goals (
     first
     | fail_if_success clear m1_0
     |(clear m1_0; have p9922068 : 0 ≤ (x3_1 : Int) := of_decide_eq_true y3_; have q9922068 : x3_1 < (a0.size : Int) := of_decide_eq_true y3_; have hx9922068 := bt_at a0 x3_1; replace p9922068 := eq_true p9922068; replace q9922068 := eq_true q9922068; go_wp2_with (first | ((with_reducible refine gate_callee (f := 49) rfl ?_); refine gc_ 49 16 Tryz.func49 #[.int .u8 (bt a0 x3_1)] ?_; (with_reducible refine (spec_l1Plain.calls (bt a0 x3_1) _ _ Ax3.out).mono ?_); rintro e w' ⟨rfl, ⟨nd, rfl⟩⟩; refine ⟨_, rfl, ?_⟩)))
     first
     | fail_if_success clear m1_1
     |(clear m1_1; go_roundg k1
       case measure => have := HK1.out; omega
       case rel => exact ⟨(wrap64 (x3_1 + 1)), y2_, H', ⟨y29_⟩, y5_⟩)
     first
     | fail_if_success clear m1_2
     |(clear m1_2; go_ret
       exact ⟨y2_, y5_⟩)
     first
     | fail_if_success clear m1_3
     |(clear m1_3; go_wp2
       go_ret
       exact ⟨y2_, y5_⟩))

/-! ### spec_l2Attrs: function 24 -/
def spec_l2Attrs.l0 : Nat → List (S51) → Int → Option (Int)
  | 0, _, _ => none
  | k + 1, x0, x3 => if x3 < (x0.length : Int) then (if 0 ≤ x3 then ((spec_l1Name.f k ((rd_T51 x0 x3).f0)).bind fun t114 => (if t114 = 0 then (if x3 ≤ (x0.length : Int) then ((spec_l2Attr.f k (x0.take (x3 : Int).toNat) ((rd_T51 x0 x3).f0)).bind fun t120 => (if t120 ≥ 0 then (some 6) else ((spec_l1Value.f k ((rd_T51 x0 x3).f1)).bind fun t122 => (if t122 = 0 then (spec_l2Attrs.l0 k x0 (wrap64 (x3 + 1))) else (some t122))))) else (none)) else (some t114))) else (none)) else (some 0)
def spec_l2Attrs.f (k : Nat) (l0 : List (S51)) : Option (Int) := spec_l2Attrs.l0 k l0 0
theorem spec_l2Attrs.mono_l : ∀ k, (∀ y0 y1, LeO (spec_l2Attrs.l0 k y0 y1) (spec_l2Attrs.l0 (k + 1) y0 y1))
  | 0 => fun _ _ r h => by simp [spec_l2Attrs.l0] at h
  | k + 1 => by
    have ih0 := spec_l2Attrs.mono_l k
    · intro y0 y1
      unfold spec_l2Attrs.l0
      repeat' (with_reducible first | exact ih0 _ _ | exact spec_l1Name.mono _ _ | exact spec_l1Value.mono _ _ | exact spec_l2Attr.mono _ _ _ | exact LeO.refl _ | exact LeO.none _ | refine LeO.ite ?_ ?_ | refine LeO.bind ?_ (fun _ => ?_))
theorem spec_l2Attrs.mono : ∀ a0 k, LeO (spec_l2Attrs.f k a0) (spec_l2Attrs.f (k + 1) a0) := by
  intro a0 k
  have ih0 := spec_l2Attrs.mono_l k
  unfold spec_l2Attrs.f
  repeat' (with_reducible first | exact ih0 _ _ | exact spec_l1Name.mono _ _ | exact spec_l1Value.mono _ _ | exact spec_l2Attr.mono _ _ _ | exact LeO.refl _ | exact LeO.none _ | refine LeO.ite ?_ ?_ | refine LeO.bind ?_ (fun _ => ?_))
set_option maxHeartbeats 8000000 in
set_option maxRecDepth 100000 in
theorem spec_l2Attrs.calls (k : Nat) (A0 : Option Addr) (c0 : Nat) (l0 : List (S51)) (r : Int) (w : World) (hr0 : Kd.C k51 w A0 l0.length l0) (hc0 : l0.length ≤ c0) (h : spec_l2Attrs.f k l0 = some r) :
    Calls Tryz.prog 24 #[.slice A0 l0.length c0] w fun e w' => e = .returned (.int .i64 r) ∧ Drawn0 w w' := by
 have HR0 := a_ hr0; have HC0 := a_ hc0; clear hr0 hc0; have H : (spec_l2Attrs.l0 k l0 0) = some r := h; clear h; have H' := a_ H; clear H; go_enter Tryz.func24, Tryz.ntmps24
 go_wp2
 repeat (go_quiet (fail); try go_wp2)
 go_loopg [3] k (fun kq v3 w' => ∃ (x3_1 : Int), v3 = .int .i64 x3_1 ∧ Aside0 (spec_l2Attrs.l0 kq l0 x3_1 = some r) ∧ Aside0 (kq ≤ k) ∧ Drawn0 w w')
 case atStart => exact ⟨(0), y2_, H', ⟨Nat.le_refl _⟩, y5_⟩
 case round =>
  clear H'; obtain ⟨x3_1, rfl, HA, HK1, ⟨m1, rfl⟩⟩ := hrel; cases gk with
  | zero => exact absurd HA.out (by simp [spec_l2Attrs.l0])
  | succ k1 =>
   have H := HA.out; clear HA; simp only [spec_l2Attrs.l0] at H; by_cases cx0 : x3_1 < (l0.length : Int); rw [if_pos cx0] at H; have cx0b0 : decide (x3_1 < (l0.length : Int)) = true := decide_eq_true cx0; clear cx0; by_cases cx1 : 0 ≤ x3_1; rw [if_pos cx1] at H; have cx1b0 : decide (0 ≤ x3_1) = true := decide_eq_true cx1; clear cx1; replace H := Option.bind_eq_some_iff.mp H; obtain ⟨tx2, Ay2, H⟩ := H; have Ax2 := a_ Ay2; clear Ay2; by_cases cx3 : tx2 = 0; rw [if_pos cx3] at H; have cx3b0 : (tx2 == 0) = true := beq_iff_eq.mpr cx3; have cx3b1 : (tx2 != 0) = false := bne_eq_false_iff_eq.mpr cx3; clear cx3; have c6b0 := eq_true (of_decide_eq_true y3_ : 0 ≤ x3_1); by_cases cx4 : x3_1 ≤ (l0.length : Int); rw [if_pos cx4] at H; have cx4b0 := eq_true cx4; have cx4b1 : decide (x3_1 ≤ (l0.length : Int)) = true := decide_eq_true cx4; clear cx4; obtain ⟨y115, hy_⟩ : ∃ y_ : List (S51), y_ = (l0.take (x3_1 : Int).toNat) := ⟨_, rfl⟩; replace H : ((spec_l2Attr.f k1 y115 ((rd_T51 l0 x3_1).f0)).bind fun t120 => (if t120 ≥ 0 then (some 6) else ((spec_l1Value.f k1 ((rd_T51 l0 x3_1).f1)).bind fun t122 => (if t122 = 0 then (spec_l2Attrs.l0 k1 l0 (wrap64 (x3_1 + 1))) else (some t122))))) = some r := z0_; have Ny115 := a_ hy_; clear hy_; replace H := Option.bind_eq_some_iff.mp H; obtain ⟨tx5, Ay5, H⟩ := H; have Ax5 := a_ Ay5; clear Ay5; by_cases cx6 : tx5 ≥ 0; rw [if_pos cx6] at H; have cx6b0 : decide (0 ≤ tx5) = true := decide_eq_true cx6; clear cx6; obtain rfl := Option.some.inj H; have m0_0 := t_; have m0_1 := t_; have m0_2 := t_; have m0_7 := t_; rotate_left; rw [if_neg cx6] at H; have cx6b0 : decide (0 ≤ tx5) = false := decide_eq_false cx6; clear cx6; replace H := Option.bind_eq_some_iff.mp H; obtain ⟨tx7, Ay7, H⟩ := H; have Ax7 := a_ Ay7; clear Ay7; by_cases cx8 : tx7 = 0; rw [if_pos cx8] at H; have cx8b0 : (tx7 == 0) = true := beq_iff_eq.mpr cx8; have cx8b1 : (tx7 != 0) = false := bne_eq_false_iff_eq.mpr cx8; clear cx8; have H' := a_ H; clear H; have m0_0 := t_; have m0_3 := t_; have m0_4 := t_; have m0_8 := t_; rotate_left; rw [if_neg cx8] at H; have cx8b0 : (tx7 == 0) = false := beq_eq_false_iff_ne.mpr cx8; have cx8b1 : (tx7 != 0) = true := bne_iff_ne.mpr cx8; obtain rfl := Option.some.inj H; have m0_0 := t_; have m0_4 := t_; have m0_5 := t_; have m0_7 := t_; rotate_left
   ·rw [if_neg cx4] at H; exact absurd H y50_
   rw [if_neg cx3] at H; have cx3b0 : (tx2 == 0) = false := beq_eq_false_iff_ne.mpr cx3; have cx3b1 : (tx2 != 0) = true := bne_iff_ne.mpr cx3; obtain rfl := Option.some.inj H; have m0_0 := t_; have m0_6 := t_; have m0_7 := t_; rotate_left
   ·rw [if_neg cx1] at H; exact absurd H y50_
   rw [if_neg cx0] at H; have cx0b0 : decide (x3_1 < (l0.length : Int)) = false := decide_eq_false cx0; clear cx0; obtain rfl := Option.some.inj H; have m0_9 := t_; rotate_left
   all_goals (
    first
    | fail_if_success clear m0_0
    |(clear m0_0; have p9922068 : 0 ≤ (x3_1 : Int) := of_decide_eq_true y3_; have q9922068 : x3_1 < (l0.length : Int) := of_decide_eq_true y3_; obtain ⟨ad9922068, e9922068, hx9922068_0, hx9922068_1⟩ := at_T51 HR0.out x3_1 p9922068 q9922068; cases e9922068; replace p9922068 := eq_true p9922068; replace q9922068 := eq_true q9922068
      go_wp2_with (first | (have mkq_ := m0_1; clear mkq_; go_at_call 20; (with_reducible refine (spec_l1Name.calls k1 ((rd_T51 l0 x3_1).f0) tx2 _ Ax2.out).mono ?_); rintro e w' ⟨rfl, ⟨nd, rfl⟩⟩; (try first | exact ⟨rfl, _, World.drewN_drewN _ _ _⟩ | exact ⟨rfl, _, Eq.trans (World.drewN_drewN _ _ _) (congrArg (World.drewN _) (Nat.add_assoc _ _ _))⟩); have q9165047 : (x3_1 : Int) ≤ ((l0.length : Int) : Int) := of_decide_eq_true y3_; obtain ⟨i010, hi010, _, hsz10, _⟩ := info_parts info51; have hroom10 : l0.length ≤ c0 := HC0.out; have hC10 : Kd.C k51 _ (some ad9922068) l0.length l0 := HR0.out; have hcut10 := cut_to (P := Tryz.prog) 38 51 .i64 Tryz.underlying38 hi010 (some ad9922068) l0.length c0 x3_1 (of_decide_eq_true y3_) q9165047 hroom10; have hr9165047 := Kd.C_take (m := (x3_1 : Int).toNat) hC10 (by omega); have hy9165047 : y115.length = (x3_1 : Int).toNat := (by rw [Ny115.out, List.length_take]; omega); rw [← Ny115.out] at hr9165047; rw [← hy9165047] at hcut10; have HR118 := a_ hr9165047; have HC118 := a_ (show y115.length ≤ c0 from by omega); clear hr9165047 hC10 hroom10 hi010 hsz10; have KY10 := a_ hy9165047; clear hy9165047; replace q9165047 := eq_true q9165047; have p9006155 : 0 ≤ (x3_1 : Int) := of_decide_eq_true y3_; have q9006155 : x3_1 < (l0.length : Int) := of_decide_eq_true y3_; obtain ⟨ad9006155, e9006155, hx9006155_0, hx9006155_1⟩ := at_T51 HR0.out x3_1 p9006155 q9006155; obtain rfl : ad9922068 = ad9006155 := (by injection e9006155); replace p9006155 := eq_true p9006155; replace q9006155 := eq_true q9006155) | (have mkq_ := m0_2; clear mkq_; go_at_call 39; (with_reducible refine (spec_l2Attr.calls k1 _ _ y115 ((rd_T51 l0 x3_1).f0) tx5 _ ?side1 ?side2 Ax5.out).mono ?_); (case side1 => repeat (first | exact HR118.out | (with_reducible refine Kd.C_alloc ?_ _) | (with_reducible refine Kd.C_drewN ?_ _) | (with_reducible refine Kd.C_drew ?_))); (case side2 => exact HC118.out); rintro e w' ⟨rfl, ⟨nd, rfl⟩⟩; (try first | exact ⟨rfl, _, World.drewN_drewN _ _ _⟩ | exact ⟨rfl, _, Eq.trans (World.drewN_drewN _ _ _) (congrArg (World.drewN _) (Nat.add_assoc _ _ _))⟩)) | (have mkq_ := m0_3; clear mkq_; go_at_call 20; (with_reducible refine (spec_l1Name.calls k1 ((rd_T51 l0 x3_1).f0) tx2 _ Ax2.out).mono ?_); rintro e w' ⟨rfl, ⟨nd, rfl⟩⟩; (try first | exact ⟨rfl, _, World.drewN_drewN _ _ _⟩ | exact ⟨rfl, _, Eq.trans (World.drewN_drewN _ _ _) (congrArg (World.drewN _) (Nat.add_assoc _ _ _))⟩); have q9165047 : (x3_1 : Int) ≤ ((l0.length : Int) : Int) := of_decide_eq_true y3_; obtain ⟨i013, hi013, _, hsz13, _⟩ := info_parts info51; have hroom13 : l0.length ≤ c0 := HC0.out; have hC13 : Kd.C k51 _ (some ad9922068) l0.length l0 := HR0.out; have hcut13 := cut_to (P := Tryz.prog) 38 51 .i64 Tryz.underlying38 hi013 (some ad9922068) l0.length c0 x3_1 (of_decide_eq_true y3_) q9165047 hroom13; have hr9165047 := Kd.C_take (m := (x3_1 : Int).toNat) hC13 (by omega); have hy9165047 : y115.length = (x3_1 : Int).toNat := (by rw [Ny115.out, List.length_take]; omega); rw [← Ny115.out] at hr9165047; rw [← hy9165047] at hcut13; have HR118 := a_ hr9165047; have HC118 := a_ (show y115.length ≤ c0 from by omega); clear hr9165047 hC13 hroom13 hi013 hsz13; have KY13 := a_ hy9165047; clear hy9165047; replace q9165047 := eq_true q9165047; have p9252686 : 0 ≤ (x3_1 : Int) := of_decide_eq_true y3_; have q9252686 : x3_1 < (l0.length : Int) := of_decide_eq_true y3_; obtain ⟨ad9252686, e9252686, hx9252686_0, hx9252686_1⟩ := at_T51 HR0.out x3_1 p9252686 q9252686; obtain rfl : ad9922068 = ad9252686 := (by injection e9252686); replace p9252686 := eq_true p9252686; replace q9252686 := eq_true q9252686) | (have mkq_ := m0_4; clear mkq_; go_at_call 39; (with_reducible refine (spec_l2Attr.calls k1 _ _ y115 ((rd_T51 l0 x3_1).f0) tx5 _ ?side1 ?side2 Ax5.out).mono ?_); (case side1 => repeat (first | exact HR118.out | (with_reducible refine Kd.C_alloc ?_ _) | (with_reducible refine Kd.C_drewN ?_ _) | (with_reducible refine Kd.C_drew ?_))); (case side2 => exact HC118.out); rintro e w' ⟨rfl, ⟨nd, rfl⟩⟩; (try first | exact ⟨rfl, _, World.drewN_drewN _ _ _⟩ | exact ⟨rfl, _, Eq.trans (World.drewN_drewN _ _ _) (congrArg (World.drewN _) (Nat.add_assoc _ _ _))⟩); have p9491559 : 0 ≤ (x3_1 : Int) := of_decide_eq_true y3_; have q9491559 : x3_1 < (l0.length : Int) := of_decide_eq_true y3_; obtain ⟨ad9491559, e9491559, hx9491559_0, hx9491559_1⟩ := at_T51 HR0.out x3_1 p9491559 q9491559; obtain rfl : ad9922068 = ad9491559 := (by injection e9491559); replace p9491559 := eq_true p9491559; replace q9491559 := eq_true q9491559) | (go_at_call 40; (with_reducible refine (spec_l1Value.calls k1 ((rd_T51 l0 x3_1).f1) tx7 _ Ax7.out).mono ?_); rintro e w' ⟨rfl, ⟨nd, rfl⟩⟩; (try first | exact ⟨rfl, _, World.drewN_drewN _ _ _⟩ | exact ⟨rfl, _, Eq.trans (World.drewN_drewN _ _ _) (congrArg (World.drewN _) (Nat.add_assoc _ _ _))⟩)) | (have mkq_ := m0_5; clear mkq_; go_at_call 20; (with_reducible refine (spec_l1Name.calls k1 ((rd_T51 l0 x3_1).f0) tx2 _ Ax2.out).mono ?_); rintro e w' ⟨rfl, ⟨nd, rfl⟩⟩; (try first | exact ⟨rfl, _, World.drewN_drewN _ _ _⟩ | exact ⟨rfl, _, Eq.trans (World.drewN_drewN _ _ _) (congrArg (World.drewN _) (Nat.add_assoc _ _ _))⟩); have q9165047 : (x3_1 : Int) ≤ ((l0.length : Int) : Int) := of_decide_eq_true y3_; obtain ⟨i014, hi014, _, hsz14, _⟩ := info_parts info51; have hroom14 : l0.length ≤ c0 := HC0.out; have hC14 : Kd.C k51 _ (some ad9922068) l0.length l0 := HR0.out; have hcut14 := cut_to (P := Tryz.prog) 38 51 .i64 Tryz.underlying38 hi014 (some ad9922068) l0.length c0 x3_1 (of_decide_eq_true y3_) q9165047 hroom14; have hr9165047 := Kd.C_take (m := (x3_1 : Int).toNat) hC14 (by omega); have hy9165047 : y115.length = (x3_1 : Int).toNat := (by rw [Ny115.out, List.length_take]; omega); rw [← Ny115.out] at hr9165047; rw [← hy9165047] at hcut14; have HR118 := a_ hr9165047; have HC118 := a_ (show y115.length ≤ c0 from by omega); clear hr9165047 hC14 hroom14 hi014 hsz14; have KY14 := a_ hy9165047; clear hy9165047; replace q9165047 := eq_true q9165047; have p9855615 : 0 ≤ (x3_1 : Int) := of_decide_eq_true y3_; have q9855615 : x3_1 < (l0.length : Int) := of_decide_eq_true y3_; obtain ⟨ad9855615, e9855615, hx9855615_0, hx9855615_1⟩ := at_T51 HR0.out x3_1 p9855615 q9855615; obtain rfl : ad9922068 = ad9855615 := (by injection e9855615); replace p9855615 := eq_true p9855615; replace q9855615 := eq_true q9855615) | (have mkq_ := m0_6; clear mkq_; go_at_call 20; (with_reducible refine (spec_l1Name.calls k1 ((rd_T51 l0 x3_1).f0) tx2 _ Ax2.out).mono ?_); rintro e w' ⟨rfl, ⟨nd, rfl⟩⟩; (try first | exact ⟨rfl, _, World.drewN_drewN _ _ _⟩ | exact ⟨rfl, _, Eq.trans (World.drewN_drewN _ _ _) (congrArg (World.drewN _) (Nat.add_assoc _ _ _))⟩)) | go_quiet (first | (go_at_call 20; (with_reducible refine (spec_l1Name.calls k1 ((rd_T51 l0 x3_1).f0) tx2 _ Ax2.out).mono ?_); rintro e w' ⟨rfl, ⟨nd, rfl⟩⟩; (try first | exact ⟨rfl, _, World.drewN_drewN _ _ _⟩ | exact ⟨rfl, _, Eq.trans (World.drewN_drewN _ _ _) (congrArg (World.drewN _) (Nat.add_assoc _ _ _))⟩); have q9165047 : (x3_1 : Int) ≤ ((l0.length : Int) : Int) := of_decide_eq_true y3_; obtain ⟨i010, hi010, _, hsz10, _⟩ := info_parts info51; have hroom10 : l0.length ≤ c0 := HC0.out; have hC10 : Kd.C k51 _ (some ad9922068) l0.length l0 := HR0.out; have hcut10 := cut_to (P := Tryz.prog) 38 51 .i64 Tryz.underlying38 hi010 (some ad9922068) l0.length c0 x3_1 (of_decide_eq_true y3_) q9165047 hroom10; have hr9165047 := Kd.C_take (m := (x3_1 : Int).toNat) hC10 (by omega); have hy9165047 : y115.length = (x3_1 : Int).toNat := (by rw [Ny115.out, List.length_take]; omega); rw [← Ny115.out] at hr9165047; rw [← hy9165047] at hcut10; have HR118 := a_ hr9165047; have HC118 := a_ (show y115.length ≤ c0 from by omega); clear hr9165047 hC10 hroom10 hi010 hsz10; have KY10 := a_ hy9165047; clear hy9165047; replace q9165047 := eq_true q9165047; have p9006155 : 0 ≤ (x3_1 : Int) := of_decide_eq_true y3_; have q9006155 : x3_1 < (l0.length : Int) := of_decide_eq_true y3_; obtain ⟨ad9006155, e9006155, hx9006155_0, hx9006155_1⟩ := at_T51 HR0.out x3_1 p9006155 q9006155; obtain rfl : ad9922068 = ad9006155 := (by injection e9006155); replace p9006155 := eq_true p9006155; replace q9006155 := eq_true q9006155) | (go_at_call 39; (with_reducible refine (spec_l2Attr.calls k1 _ _ y115 ((rd_T51 l0 x3_1).f0) tx5 _ ?side1 ?side2 Ax5.out).mono ?_); (case side1 => repeat (first | exact HR118.out | (with_reducible refine Kd.C_alloc ?_ _) | (with_reducible refine Kd.C_drewN ?_ _) | (with_reducible refine Kd.C_drew ?_))); (case side2 => exact HC118.out); rintro e w' ⟨rfl, ⟨nd, rfl⟩⟩; (try first | exact ⟨rfl, _, World.drewN_drewN _ _ _⟩ | exact ⟨rfl, _, Eq.trans (World.drewN_drewN _ _ _) (congrArg (World.drewN _) (Nat.add_assoc _ _ _))⟩)) | (go_at_call 20; (with_reducible refine (spec_l1Name.calls k1 ((rd_T51 l0 x3_1).f0) tx2 _ Ax2.out).mono ?_); rintro e w' ⟨rfl, ⟨nd, rfl⟩⟩; (try first | exact ⟨rfl, _, World.drewN_drewN _ _ _⟩ | exact ⟨rfl, _, Eq.trans (World.drewN_drewN _ _ _) (congrArg (World.drewN _) (Nat.add_assoc _ _ _))⟩); have q9165047 : (x3_1 : Int) ≤ ((l0.length : Int) : Int) := of_decide_eq_true y3_; obtain ⟨i013, hi013, _, hsz13, _⟩ := info_parts info51; have hroom13 : l0.length ≤ c0 := HC0.out; have hC13 : Kd.C k51 _ (some ad9922068) l0.length l0 := HR0.out; have hcut13 := cut_to (P := Tryz.prog) 38 51 .i64 Tryz.underlying38 hi013 (some ad9922068) l0.length c0 x3_1 (of_decide_eq_true y3_) q9165047 hroom13; have hr9165047 := Kd.C_take (m := (x3_1 : Int).toNat) hC13 (by omega); have hy9165047 : y115.length = (x3_1 : Int).toNat := (by rw [Ny115.out, List.length_take]; omega); rw [← Ny115.out] at hr9165047; rw [← hy9165047] at hcut13; have HR118 := a_ hr9165047; have HC118 := a_ (show y115.length ≤ c0 from by omega); clear hr9165047 hC13 hroom13 hi013 hsz13; have KY13 := a_ hy9165047; clear hy9165047; replace q9165047 := eq_true q9165047; have p9252686 : 0 ≤ (x3_1 : Int) := of_decide_eq_true y3_; have q9252686 : x3_1 < (l0.length : Int) := of_decide_eq_true y3_; obtain ⟨ad9252686, e9252686, hx9252686_0, hx9252686_1⟩ := at_T51 HR0.out x3_1 p9252686 q9252686; obtain rfl : ad9922068 = ad9252686 := (by injection e9252686); replace p9252686 := eq_true p9252686; replace q9252686 := eq_true q9252686) | (go_at_call 39; (with_reducible refine (spec_l2Attr.calls k1 _ _ y115 ((rd_T51 l0 x3_1).f0) tx5 _ ?side1 ?side2 Ax5.out).mono ?_); (case side1 => repeat (first | exact HR118.out | (with_reducible refine Kd.C_alloc ?_ _) | (with_reducible refine Kd.C_drewN ?_ _) | (with_reducible refine Kd.C_drew ?_))); (case side2 => exact HC118.out); rintro e w' ⟨rfl, ⟨nd, rfl⟩⟩; (try first | exact ⟨rfl, _, World.drewN_drewN _ _ _⟩ | exact ⟨rfl, _, Eq.trans (World.drewN_drewN _ _ _) (congrArg (World.drewN _) (Nat.add_assoc _ _ _))⟩); have p9491559 : 0 ≤ (x3_1 : Int) := of_decide_eq_true y3_; have q9491559 : x3_1 < (l0.length : Int) := of_decide_eq_true y3_; obtain ⟨ad9491559, e9491559, hx9491559_0, hx9491559_1⟩ := at_T51 HR0.out x3_1 p9491559 q9491559; obtain rfl : ad9922068 = ad9491559 := (by injection e9491559); replace p9491559 := eq_true p9491559; replace q9491559 := eq_true q9491559) | (go_at_call 40; (with_reducible refine (spec_l1Value.calls k1 ((rd_T51 l0 x3_1).f1) tx7 _ Ax7.out).mono ?_); rintro e w' ⟨rfl, ⟨nd, rfl⟩⟩; (try first | exact ⟨rfl, _, World.drewN_drewN _ _ _⟩ | exact ⟨rfl, _, Eq.trans (World.drewN_drewN _ _ _) (congrArg (World.drewN _) (Nat.add_assoc _ _ _))⟩)) | (go_at_call 20; (with_reducible refine (spec_l1Name.calls k1 ((rd_T51 l0 x3_1).f0) tx2 _ Ax2.out).mono ?_); rintro e w' ⟨rfl, ⟨nd, rfl⟩⟩; (try first | exact ⟨rfl, _, World.drewN_drewN _ _ _⟩ | exact ⟨rfl, _, Eq.trans (World.drewN_drewN _ _ _) (congrArg (World.drewN _) (Nat.add_assoc _ _ _))⟩); have q9165047 : (x3_1 : Int) ≤ ((l0.length : Int) : Int) := of_decide_eq_true y3_; obtain ⟨i014, hi014, _, hsz14, _⟩ := info_parts info51; have hroom14 : l0.length ≤ c0 := HC0.out; have hC14 : Kd.C k51 _ (some ad9922068) l0.length l0 := HR0.out; have hcut14 := cut_to (P := Tryz.prog) 38 51 .i64 Tryz.underlying38 hi014 (some ad9922068) l0.length c0 x3_1 (of_decide_eq_true y3_) q9165047 hroom14; have hr9165047 := Kd.C_take (m := (x3_1 : Int).toNat) hC14 (by omega); have hy9165047 : y115.length = (x3_1 : Int).toNat := (by rw [Ny115.out, List.length_take]; omega); rw [← Ny115.out] at hr9165047; rw [← hy9165047] at hcut14; have HR118 := a_ hr9165047; have HC118 := a_ (show y115.length ≤ c0 from by omega); clear hr9165047 hC14 hroom14 hi014 hsz14; have KY14 := a_ hy9165047; clear hy9165047; replace q9165047 := eq_true q9165047; have p9855615 : 0 ≤ (x3_1 : Int) := of_decide_eq_true y3_; have q9855615 : x3_1 < (l0.length : Int) := of_decide_eq_true y3_; obtain ⟨ad9855615, e9855615, hx9855615_0, hx9855615_1⟩ := at_T51 HR0.out x3_1 p9855615 q9855615; obtain rfl : ad9922068 = ad9855615 := (by injection e9855615); replace p9855615 := eq_true p9855615; replace q9855615 := eq_true q9855615) | (go_at_call 20; (with_reducible refine (spec_l1Name.calls k1 ((rd_T51 l0 x3_1).f0) tx2 _ Ax2.out).mono ?_); rintro e w' ⟨rfl, ⟨nd, rfl⟩⟩; (try first | exact ⟨rfl, _, World.drewN_drewN _ _ _⟩ | exact ⟨rfl, _, Eq.trans (World.drewN_drewN _ _ _) (congrArg (World.drewN _) (Nat.add_assoc _ _ _))⟩)))))
    first
    | fail_if_success clear m0_7
    |(clear m0_7; go_ret
      exact ⟨y2_, y5_⟩)
    first
    | fail_if_success clear m0_8
    |(clear m0_8; go_roundg k1
      case measure => have := HK1.out; omega
      case rel => exact ⟨(wrap64 (x3_1 + 1)), y2_, H', ⟨y29_⟩, y5_⟩)
    first
    | fail_if_success clear m0_9
    |(clear m0_9; go_wp2
      repeat (go_quiet (fail); try go_wp2)
      go_ret
      exact ⟨y2_, y5_⟩))

end Go.Proofs.YthoamjobclfjjaaGreat.R
