-- Written by a program of this session's own (xp.py) for this seat.
import Derived.Test.YtcpcenhpmcfmjaaPZ
import Derived.Test.YtcpcenhpmcfmjaaP0
namespace Go.Proofs.Ytcpcenhpmcfmjaa.P
open Go.RowKit Go.Proofs.YtcpcenhpmcfmjaaW.PrintWords Go.Proofs.YtcpcenhpmcfmjaaW.PrintLast Go.Proofs.YtcpcenhpmcfmjaaW.PrintMore
attribute [local go_sem] Instr.field asAgg
attribute [local go_sem] max2_int min2_int max_two min_two max_three min_three max_four min_four   -- for this text's walks alone
set_option linter.unusedVariables false
set_option linter.unusedSimpArgs false

/-! ### laws_szNodeS: function 90 -/
def laws_szNodeS.f (l0 : List (S149)) (a1 : Int) : Option (Int) := if (wrap64 (a1 - (l0.length : Int))) < 0 then (some (-1)) else (some (wrap64 (a1 - (l0.length : Int))))
set_option maxHeartbeats 8000000 in
set_option maxRecDepth 100000 in
theorem laws_szNodeS.calls (A0 : Option Addr) (c0 : Nat) (l0 : List (S149)) (a1 : Int) (r : Int) (w : World) (hr0 : Kd.C k149 w A0 l0.length l0) (hc0 : l0.length ≤ c0) (h : laws_szNodeS.f l0 a1 = some r) :
    Calls Try.prog 90 #[.slice A0 l0.length c0, .int .i64 a1] w fun e w' => e = .returned (.int .i64 r) ∧ Drawn0 w w' := by
 have HR0 := Aside0.mk hr0; have HC0 := Aside0.mk hc0; clear hr0 hc0; have H : (if (wrap64 (a1 - (l0.length : Int))) < 0 then (some (-1)) else (some (wrap64 (a1 - (l0.length : Int))))) = some r := h; clear h; by_cases c3 : (wrap64 (a1 - (l0.length : Int))) < 0
 ·rw [if_pos c3] at H; have c3b0 : decide ((wrap64 (a1 - (l0.length : Int))) < 0) = true := decide_eq_true c3; clear c3; obtain rfl := Option.some.inj H; go_enter Try.func90, Try.ntmps90
  go_wp2
  go_ret
  exact ⟨y2_, y11_⟩
 ·rw [if_neg c3] at H; have c3b0 : decide ((wrap64 (a1 - (l0.length : Int))) < 0) = false := decide_eq_false c3; clear c3; obtain rfl := Option.some.inj H; go_enter Try.func90, Try.ntmps90
  go_wp2
  go_ret
  exact ⟨y2_, y11_⟩

/-! ### laws_szStep: function 53 -/
def laws_szStep.f (a0_0 : Int) (a0_1 : Int) (a0_2 : ByteArray) (a0_3 : Int) (l0_4 : List (S149)) (l0_5 : List (S149)) (a1 : Int) : Option (Int) := if (wrap64 (a1 - (a0_2.size : Int))) < 0 then (some (-1)) else ((laws_szNodeS.f l0_4 (wrap64 (a1 - (a0_2.size : Int)))).bind fun t102 => (if t102 < 0 then (some (-1)) else ((laws_szNodeS.f l0_5 t102).bind fun t103 => (if t103 < 0 then (some (-1)) else (some t103)))))
set_option maxHeartbeats 8000000 in
set_option maxRecDepth 100000 in
theorem laws_szStep.calls (a0_0 : Int) (a0_1 : Int) (a0_2 : ByteArray) (a0_3 : Int) (A0_4 : Option Addr) (c0_4 : Nat) (l0_4 : List (S149)) (A0_5 : Option Addr) (c0_5 : Nat) (l0_5 : List (S149)) (a1 : Int) (r : Int) (w : World) (hr0_4 : Kd.C k149 w A0_4 l0_4.length l0_4) (hc0_4 : l0_4.length ≤ c0_4) (hr0_5 : Kd.C k149 w A0_5 l0_5.length l0_5) (hc0_5 : l0_5.length ≤ c0_5) (h : laws_szStep.f a0_0 a0_1 a0_2 a0_3 l0_4 l0_5 a1 = some r) :
    Calls Try.prog 53 #[.agg #[.int .i64 a0_0, .int .i64 a0_1, .string a0_2, .int .i64 a0_3, .slice A0_4 l0_4.length c0_4, .slice A0_5 l0_5.length c0_5], .int .i64 a1] w fun e w' => e = .returned (.int .i64 r) ∧ Below w.heap.size w w' := by
 have hu75 := Try.underlying75; have HR0_4 := Aside0.mk hr0_4; have HC0_4 := Aside0.mk hc0_4; clear hr0_4 hc0_4; have HR0_5 := Aside0.mk hr0_5; have HC0_5 := Aside0.mk hc0_5; clear hr0_5 hc0_5; have HB := Aside0.mk (Below.refl w.heap.size w); have H : (if (wrap64 (a1 - (a0_2.size : Int))) < 0 then (some (-1)) else ((laws_szNodeS.f l0_4 (wrap64 (a1 - (a0_2.size : Int)))).bind fun t102 => (if t102 < 0 then (some (-1)) else ((laws_szNodeS.f l0_5 t102).bind fun t103 => (if t103 < 0 then (some (-1)) else (some t103)))))) = some r := h; clear h; by_cases cx0 : (wrap64 (a1 - (a0_2.size : Int))) < 0; rw [if_pos cx0] at H; have cx0b0 : decide ((wrap64 (a1 - (a0_2.size : Int))) < 0) = true := decide_eq_true cx0; clear cx0; obtain rfl := Option.some.inj H; rotate_left; rw [if_neg cx0] at H; have cx0b0 : decide ((wrap64 (a1 - (a0_2.size : Int))) < 0) = false := decide_eq_false cx0; clear cx0; replace H := Option.bind_eq_some_iff.mp H; obtain ⟨tx1, Ay1, H⟩ := H; have Ax1 := Aside0.mk Ay1; clear Ay1; by_cases cx2 : tx1 < 0; rw [if_pos cx2] at H; have cx2b0 : decide (tx1 < 0) = true := decide_eq_true cx2; clear cx2; obtain rfl := Option.some.inj H; have mk0_0 := True.intro; rotate_left; rw [if_neg cx2] at H; have cx2b0 : decide (tx1 < 0) = false := decide_eq_false cx2; clear cx2; replace H := Option.bind_eq_some_iff.mp H; obtain ⟨tx3, Ay3, H⟩ := H; have Ax3 := Aside0.mk Ay3; clear Ay3; by_cases cx4 : tx3 < 0; rw [if_pos cx4] at H; have cx4b0 : decide (tx3 < 0) = true := decide_eq_true cx4; clear cx4; obtain rfl := Option.some.inj H; have mk0_0 := True.intro; have mk0_1 := True.intro; rotate_left; rw [if_neg cx4] at H; have cx4b0 : decide (tx3 < 0) = false := decide_eq_false cx4; clear cx4; obtain rfl := Option.some.inj H; have mk0_0 := True.intro; have mk0_1 := True.intro; rotate_left
 all_goals (
  go_enter Try.func53, Try.ntmps53
  go_wp2_with (first | ((with_reducible refine gate_dst (N := 2) rfl ?_); refine box_event zr_ (N := 2) zr_ (cs := #[.int .i64 a0_0, .int .i64 a0_1, .string a0_2, .int .i64 a0_3, .slice A0_4 l0_4.length c0_4, .slice A0_5 l0_5.length c0_5]) (t := 75) zs_ ?_; intro gb9171228 hg w9855005 hbox hb; have n0_ := Aside0.mk (below_step y0_ hb); have n1_ := Aside0.mk (hbox); have n2_ := Aside0.mk ((by rw [hg]; exact (below_size y0_) : w.heap.size ≤ gb9171228)); have n3_ := Aside0.mk ((by rw [hg]; exact (below_size y0_) : w.heap.size ≤ gb9171228)); clear HB; have HB := n0_; have BK9171228 := n1_; have GW9171228 := n2_; have GE9171228 := n3_; clear n0_ n1_ n2_ n3_; clear hb hbox hg; have hcz9768161_0 : w9855005.cell? ⟨gb9171228, 0, none⟩ = some (.int .i64 a0_0) := (blk_cell BK9171228.out 0).trans rfl; have hcz9768161_1 : w9855005.cell? ⟨gb9171228, 1, none⟩ = some (.int .i64 a0_1) := (blk_cell BK9171228.out 1).trans rfl; have hcz9768161_2 : w9855005.cell? ⟨gb9171228, 2, none⟩ = some (.string a0_2) := (blk_cell BK9171228.out 2).trans rfl; have hcz9768161_3 : w9855005.cell? ⟨gb9171228, 3, none⟩ = some (.int .i64 a0_3) := (blk_cell BK9171228.out 3).trans rfl; have hcz9768161_4 : w9855005.cell? ⟨gb9171228, 4, none⟩ = some (.slice A0_4 l0_4.length c0_4) := (blk_cell BK9171228.out 4).trans rfl; have hcz9768161_5 : w9855005.cell? ⟨gb9171228, 5, none⟩ = some (.slice A0_5 l0_5.length c0_5) := (blk_cell BK9171228.out 5).trans rfl; have hfz9768161_0 := blk_frozen BK9171228.out 0; have hfz9768161_1 := blk_frozen BK9171228.out 1; have hfz9768161_2 := blk_frozen BK9171228.out 2; have hfz9768161_3 := blk_frozen BK9171228.out 3; have hfz9768161_4 := blk_frozen BK9171228.out 4; have hfz9768161_5 := blk_frozen BK9171228.out 5) | (have mkq_ := mk0_0; clear mkq_; (with_reducible refine gate_callee (f := 90) rfl ?_); refine goesL_ (some 15) rfl rfl Try.func90 (by kernel_rfl) rfl #[.slice A0_4 l0_4.length c0_4, .int .i64 (wrap64 (a1 - (a0_2.size : Int)))] rfl y1_ ?_; (with_reducible refine (laws_szNodeS.calls _ _ l0_4 (wrap64 (a1 - (a0_2.size : Int))) tx1 _ ?side1 ?side2 Ax1.out).mono ?_); (case side1 => repeat (first | exact (Kd.C_below HR0_4.out HB.out) | (with_reducible refine Kd.C_alloc ?_ _) | (with_reducible refine Kd.C_drewN ?_ _) | (with_reducible refine Kd.C_drew ?_))); (case side2 => exact HC0_4.out); rintro e w' ⟨rfl, ⟨nd, rfl⟩⟩; refine ⟨_, rfl, ?_⟩) | (have mkq_ := mk0_1; clear mkq_; (with_reducible refine gate_callee (f := 90) rfl ?_); refine goesL_ (some 21) rfl rfl Try.func90 (by kernel_rfl) rfl #[.slice A0_5 l0_5.length c0_5, .int .i64 tx1] rfl y1_ ?_; (with_reducible refine (laws_szNodeS.calls _ _ l0_5 tx1 tx3 _ ?side1 ?side2 Ax3.out).mono ?_); (case side1 => repeat (first | exact (Kd.C_below HR0_5.out (by repeat (first | (with_reducible first | exact HB.out | apply below_alloc | apply pw_below_drewN | apply below_drew1 | refine below_set ?_ GE9171228.out) | exact HB.out))) | (with_reducible refine Kd.C_alloc ?_ _) | (with_reducible refine Kd.C_drewN ?_ _) | (with_reducible refine Kd.C_drew ?_))); (case side2 => exact HC0_5.out); rintro e w' ⟨rfl, ⟨nd, rfl⟩⟩; refine ⟨_, rfl, ?_⟩))
  go_ret
  exact ⟨y5_, by repeat (first | (with_reducible first | exact HB.out | apply below_alloc | apply pw_below_drewN | apply below_drew1 | refine below_set ?_ GE9171228.out) | exact HB.out)⟩)

/-! ### laws_szStepS: function 21 -/
def laws_szStepS.l0 : Nat → List (S75) → Int → Int → Option (Int)
  | 0, _, _, _ => none
  | k + 1, x0, x1, x5 => if x5 < (x0.length : Int) then (if 0 ≤ x5 then ((laws_szStep.f ((rd_T75 x0 x5).f0) ((rd_T75 x0 x5).f1) ((rd_T75 x0 x5).f2) ((rd_T75 x0 x5).f3) ((rd_T75 x0 x5).f4) ((rd_T75 x0 x5).f5) x1).bind fun t105 => (if t105 < 0 then (some (-1)) else (laws_szStepS.l0 k x0 t105 (wrap64 (x5 + 1))))) else (none)) else (some x1)
def laws_szStepS.f (k : Nat) (l0 : List (S75)) (a1 : Int) : Option (Int) := if (wrap64 (a1 - (l0.length : Int))) < 0 then (some (-1)) else (laws_szStepS.l0 k l0 (wrap64 (a1 - (l0.length : Int))) 0)
theorem laws_szStepS.mono_l : ∀ k, (∀ y0 y1 y2, LeO (laws_szStepS.l0 k y0 y1 y2) (laws_szStepS.l0 (k + 1) y0 y1 y2))
  | 0 => fun _ _ _ r h => by simp [laws_szStepS.l0] at h
  | k + 1 => by
    have ih0 := laws_szStepS.mono_l k
    · intro y0 y1 y2
      unfold laws_szStepS.l0
      repeat' (with_reducible first | exact ih0 _ _ _ | exact LeO.refl _ | exact LeO.none _ | refine LeO.ite ?_ ?_ | refine LeO.bind ?_ (fun _ => ?_))
theorem laws_szStepS.mono : ∀ a0 a1 k, LeO (laws_szStepS.f k a0 a1) (laws_szStepS.f (k + 1) a0 a1) := by
  intro a0 a1 k
  have ih0 := laws_szStepS.mono_l k
  unfold laws_szStepS.f
  repeat' (with_reducible first | exact ih0 _ _ _ | exact LeO.refl _ | exact LeO.none _ | refine LeO.ite ?_ ?_ | refine LeO.bind ?_ (fun _ => ?_))
set_option maxHeartbeats 8000000 in
set_option maxRecDepth 100000 in
theorem laws_szStepS.calls (k : Nat) (A0 : Option Addr) (c0 : Nat) (l0 : List (S75)) (a1 : Int) (r : Int) (w : World) (hr0 : Kd.C k75 w A0 l0.length l0) (hc0 : l0.length ≤ c0) (h : laws_szStepS.f k l0 a1 = some r) :
    Calls Try.prog 21 #[.slice A0 l0.length c0, .int .i64 a1] w fun e w' => e = .returned (.int .i64 r) ∧ Below w.heap.size w w' := by
 have hu75 := Try.underlying75; have HR0 := Aside0.mk hr0; have HC0 := Aside0.mk hc0; clear hr0 hc0; have HB := Aside0.mk (Below.refl w.heap.size w); have H : (if (wrap64 (a1 - (l0.length : Int))) < 0 then (some (-1)) else (laws_szStepS.l0 k l0 (wrap64 (a1 - (l0.length : Int))) 0)) = some r := h; clear h; by_cases cx0 : (wrap64 (a1 - (l0.length : Int))) < 0
 ·rw [if_pos cx0] at H; have cx0b0 : decide ((wrap64 (a1 - (l0.length : Int))) < 0) = true := decide_eq_true cx0; clear cx0; obtain rfl := Option.some.inj H; go_enter Try.func21, Try.ntmps21
  go_wp2
  go_ret
  exact ⟨y5_, y0_⟩
 ·rw [if_neg cx0] at H; have cx0b0 : decide ((wrap64 (a1 - (l0.length : Int))) < 0) = false := decide_eq_false cx0; clear cx0; have H' := Aside0.mk H; clear H; go_enter Try.func21, Try.ntmps21
  go_wp2
  go_loopg [1, 5] k (fun kq v1 v5 w' => ∃ (x1_1 : Int) (x5_1 : Int), v1 = .int .i64 x1_1 ∧ v5 = .int .i64 x5_1 ∧ Aside0 (laws_szStepS.l0 kq l0 x1_1 x5_1 = some r) ∧ Aside0 (kq ≤ k) ∧ Aside0 (Below w.heap.size w w'))
  case atStart => exact ⟨(wrap64 (a1 - (l0.length : Int))), (0), y2_, y2_, H', ⟨Nat.le_refl _⟩, ⟨y0_⟩⟩
  case round =>
   clear H'; (try clear c2); (try clear p2); (try clear cx0); (try clear cx0b0); obtain ⟨x1_1, x5_1, rfl, rfl, HA, HK1, HB⟩ := hrel; cases gk with
   | zero => exact absurd HA.out (by simp [laws_szStepS.l0])
   | succ k1 =>
    have H := HA.out; clear HA; simp only [laws_szStepS.l0] at H; by_cases cx1 : x5_1 < (l0.length : Int); rw [if_pos cx1] at H; have cx1b0 : decide (x5_1 < (l0.length : Int)) = true := decide_eq_true cx1; clear cx1; by_cases cx2 : 0 ≤ x5_1; rw [if_pos cx2] at H; have cx2b0 : decide (0 ≤ x5_1) = true := decide_eq_true cx2; clear cx2; replace H := Option.bind_eq_some_iff.mp H; obtain ⟨tx3, Ay3, H⟩ := H; have Ax3 := Aside0.mk Ay3; clear Ay3; by_cases cx4 : tx3 < 0; rw [if_pos cx4] at H; have cx4b0 : decide (tx3 < 0) = true := decide_eq_true cx4; clear cx4; obtain rfl := Option.some.inj H; have mk1_0 := True.intro; have mk1_1 := True.intro; rotate_left; rw [if_neg cx4] at H; have cx4b0 : decide (tx3 < 0) = false := decide_eq_false cx4; clear cx4; have H' := Aside0.mk H; clear H; have mk1_0 := True.intro; have mk1_2 := True.intro; rotate_left
    ·rw [if_neg cx2] at H; exact absurd H (by simp)
    rw [if_neg cx1] at H; have cx1b0 : decide (x5_1 < (l0.length : Int)) = false := decide_eq_false cx1; clear cx1; obtain rfl := Option.some.inj H; have mk1_3 := True.intro; rotate_left
    all_goals (
     first
     | fail_if_success clear mk1_0
     |(clear mk1_0; have p9922068 : 0 ≤ (x5_1 : Int) := of_decide_eq_true y3_; have q9922068 : x5_1 < (l0.length : Int) := of_decide_eq_true y3_; have BD104 := Aside0.mk (And.intro p9922068 q9922068); obtain ⟨ad9922068, A104_4, c104_4, A104_5, c104_5, e9922068, hx9922068_0, hx9922068_1, hx9922068_2, hx9922068_3, hx9922068_4, hx9922068_5, hl9922068_4, hi104_4, hl9922068_5, hi104_5⟩ := at_T75 HR0.out x5_1 p9922068 q9922068; cases e9922068; replace hx9922068_0 := cT_ HB.out hx9922068_0; replace hx9922068_1 := cT_ HB.out hx9922068_1; replace hx9922068_2 := cT_ HB.out hx9922068_2; replace hx9922068_3 := cT_ HB.out hx9922068_3; replace hx9922068_4 := cT_ HB.out hx9922068_4; replace hx9922068_5 := cT_ HB.out hx9922068_5; have HR104_4 := Aside0.mk hi104_4; have HC104_4 := Aside0.mk hl9922068_4; clear hi104_4 hl9922068_4; have HR104_5 := Aside0.mk hi104_5; have HC104_5 := Aside0.mk hl9922068_5; clear hi104_5 hl9922068_5; replace p9922068 := eq_true p9922068; replace q9922068 := eq_true q9922068; go_wp2_with (first | ((with_reducible refine gate_callee (f := 53) rfl ?_); refine goesL_ (some 23) rfl rfl Try.func53 (by kernel_rfl) rfl #[.agg #[.int .i64 ((rd_T75 l0 x5_1).f0), .int .i64 ((rd_T75 l0 x5_1).f1), .string ((rd_T75 l0 x5_1).f2), .int .i64 ((rd_T75 l0 x5_1).f3), .slice A104_4 ((rd_T75 l0 x5_1).f4).length c104_4, .slice A104_5 ((rd_T75 l0 x5_1).f5).length c104_5], .int .i64 x1_1] rfl y1_ ?_; (with_reducible refine (laws_szStep.calls ((rd_T75 l0 x5_1).f0) ((rd_T75 l0 x5_1).f1) ((rd_T75 l0 x5_1).f2) ((rd_T75 l0 x5_1).f3) _ _ ((rd_T75 l0 x5_1).f4) _ _ ((rd_T75 l0 x5_1).f5) x1_1 tx3 _ ?side1 ?side2 ?side3 ?side4 Ax3.out).mono ?_); (case side1 => repeat (first | exact (Kd.C_below HR104_4.out HB.out) | (with_reducible refine Kd.C_alloc ?_ _) | (with_reducible refine Kd.C_drewN ?_ _) | (with_reducible refine Kd.C_drew ?_))); (case side2 => exact HC104_4.out); (case side3 => repeat (first | exact (Kd.C_below HR104_5.out HB.out) | (with_reducible refine Kd.C_alloc ?_ _) | (with_reducible refine Kd.C_drewN ?_ _) | (with_reducible refine Kd.C_drew ?_))); (case side4 => exact HC104_5.out); rintro e w9211051 ⟨rfl, hb⟩; refine ⟨_, rfl, ?_⟩; have n0_ := Aside0.mk (below_step y0_ hb); clear HB; have HB := n0_; clear n0_; (try clear hb); (try clear hb9785291); (try clear hk); (try clear hi))))
     first
     | fail_if_success clear mk1_1
     |(clear mk1_1; go_ret
       exact ⟨y5_, y0_⟩)
     first
     | fail_if_success clear mk1_2
     |(clear mk1_2; go_roundg k1
       case measure => have := HK1.out; omega
       case rel => exact ⟨(tx3), (wrap64 (x5_1 + 1)), y2_, y2_, H', ⟨y77_⟩, ⟨y0_⟩⟩)
     first
     | fail_if_success clear mk1_3
     |(clear mk1_3; go_wp2
       go_ret
       exact ⟨y5_, y0_⟩))

/-! ### spec_l4Deep: function 63 -/
def spec_l4Deep.l0 : Nat → List (S78) → Int → Int → Option (Int)
  | 0, _, _, _ => none
  | k + 1, x0, x1, x5 => if x1 ≥ 0 then (if x5 < 50 then (if 0 ≤ x1 then (if x1 < (x0.length : Int) then (spec_l4Deep.l0 k x0 ((rd_T78 x0 x1).f1) (wrap64 (x5 + 1))) else (none)) else (none)) else (some x5)) else (some x5)
def spec_l4Deep.f (k : Nat) (l0 : List (S78)) (a1 : Int) : Option (Int) := spec_l4Deep.l0 k l0 a1 0
theorem spec_l4Deep.mono_l : ∀ k, (∀ y0 y1 y2, LeO (spec_l4Deep.l0 k y0 y1 y2) (spec_l4Deep.l0 (k + 1) y0 y1 y2))
  | 0 => fun _ _ _ r h => by simp [spec_l4Deep.l0] at h
  | k + 1 => by
    have ih0 := spec_l4Deep.mono_l k
    · intro y0 y1 y2
      unfold spec_l4Deep.l0
      repeat' (with_reducible first | exact ih0 _ _ _ | exact LeO.refl _ | exact LeO.none _ | refine LeO.ite ?_ ?_ | refine LeO.bind ?_ (fun _ => ?_))
theorem spec_l4Deep.mono : ∀ a0 a1 k, LeO (spec_l4Deep.f k a0 a1) (spec_l4Deep.f (k + 1) a0 a1) := by
  intro a0 a1 k
  have ih0 := spec_l4Deep.mono_l k
  unfold spec_l4Deep.f
  repeat' (with_reducible first | exact ih0 _ _ _ | exact LeO.refl _ | exact LeO.none _ | refine LeO.ite ?_ ?_ | refine LeO.bind ?_ (fun _ => ?_))
set_option maxHeartbeats 8000000 in
set_option maxRecDepth 100000 in
theorem spec_l4Deep.calls (k : Nat) (A0 : Option Addr) (c0 : Nat) (l0 : List (S78)) (a1 : Int) (r : Int) (w : World) (hr0 : Kd.C k78 w A0 l0.length l0) (hc0 : l0.length ≤ c0) (h : spec_l4Deep.f k l0 a1 = some r) :
    Calls Try.prog 63 #[.slice A0 l0.length c0, .int .i64 a1] w fun e w' => e = .returned (.int .i64 r) ∧ Drawn0 w w' := by
 have HR0 := Aside0.mk hr0; have HC0 := Aside0.mk hc0; clear hr0 hc0; have H : (spec_l4Deep.l0 k l0 a1 0) = some r := h; clear h; have H' := Aside0.mk H; clear H; go_enter Try.func63, Try.ntmps63
 go_wp2
 go_loopg [1, 5] k (fun kq v1 v5 w' => ∃ (x1_1 : Int) (x5_1 : Int), v1 = .int .i64 x1_1 ∧ v5 = .int .i64 x5_1 ∧ Aside0 (spec_l4Deep.l0 kq l0 x1_1 x5_1 = some r) ∧ Aside0 (kq ≤ k) ∧ Drawn0 w w')
 case atStart => exact ⟨(a1), (0), y2_, y2_, H', ⟨Nat.le_refl _⟩, y11_⟩
 case round =>
  clear H'; (try clear p2); obtain ⟨x1_1, x5_1, rfl, rfl, HA, HK1, ⟨m1, rfl⟩⟩ := hrel; cases gk with
  | zero => exact absurd HA.out (by simp [spec_l4Deep.l0])
  | succ k1 =>
   have H := HA.out; clear HA; simp only [spec_l4Deep.l0] at H; by_cases c3 : x1_1 ≥ 0
   ·rw [if_pos c3] at H; have c3b0 : decide (0 ≤ x1_1) = true := decide_eq_true c3; clear c3; by_cases c4 : x5_1 < 50
    ·rw [if_pos c4] at H; have c4b0 : decide (x5_1 < 50) = true := decide_eq_true c4; clear c4; by_cases c5 : 0 ≤ x1_1
     ·rw [if_pos c5] at H; have c5b0 : decide (0 ≤ x1_1) = true := decide_eq_true c5; clear c5; by_cases c6 : x1_1 < (l0.length : Int)
      ·rw [if_pos c6] at H; have c6b0 : decide (x1_1 < (l0.length : Int)) = true := decide_eq_true c6; clear c6; have H' := Aside0.mk H; clear H; have p106 : 0 ≤ (x1_1 : Int) := of_decide_eq_true y3_; have q106 : x1_1 < (l0.length : Int) := of_decide_eq_true y3_; have BD106 := Aside0.mk (And.intro p106 q106); obtain ⟨ad106, A106_4, c106_4, A106_5, c106_5, e106, hx106_0, hx106_1, hx106_2, hx106_3, hx106_4, hx106_5, hl106_4, hi106_4, hl106_5, hi106_5⟩ := at_T78 HR0.out x1_1 p106 q106; cases e106; have HR106_4 := Aside0.mk hi106_4; have HC106_4 := Aside0.mk hl106_4; clear hi106_4 hl106_4; have HR106_5 := Aside0.mk hi106_5; have HC106_5 := Aside0.mk hl106_5; clear hi106_5 hl106_5; replace p106 := eq_true p106; replace q106 := eq_true q106; go_wp2
       go_roundg k1
       case measure => have := HK1.out; omega
       case rel => exact ⟨((rd_T78 l0 x1_1).f1), (wrap64 (x5_1 + 1)), y2_, y2_, H', ⟨y77_⟩, y11_⟩
      ·rw [if_neg c6] at H; exact absurd H (by simp)
     ·rw [if_neg c5] at H; exact absurd H (by simp)
    ·rw [if_neg c4] at H; have c4b0 : decide (x5_1 < 50) = false := decide_eq_false c4; clear c4; obtain rfl := Option.some.inj H; go_wp2
     go_ret
     exact ⟨y2_, y11_⟩
   ·rw [if_neg c3] at H; have c3b0 : decide (0 ≤ x1_1) = false := decide_eq_false c3; clear c3; obtain rfl := Option.some.inj H; go_wp2
    go_ret
    exact ⟨y2_, y11_⟩

/-! ### spec_l1In: function 74 -/
def spec_l1In.f (a0 : Int) (a1 : Int) (a2 : Int) : Option (Bool) := if a0 ≥ a1 then (some (decide (a0 ≤ a2))) else (some false)
set_option maxHeartbeats 8000000 in
set_option maxRecDepth 100000 in
theorem spec_l1In.calls (a0 : Int) (a1 : Int) (a2 : Int) (r : Bool) (w : World) (h : spec_l1In.f a0 a1 a2 = some r) :
    Calls Try.prog 74 #[.int .i64 a0, .int .i64 a1, .int .i64 a2] w fun e w' => e = .returned (.bool r) ∧ Drawn0 w w' := by
 have H : (if a0 ≥ a1 then (some (decide (a0 ≤ a2))) else (some false)) = some r := h; clear h; by_cases c4 : a0 ≥ a1
 ·rw [if_pos c4] at H; have c4b0 : decide (a1 ≤ a0) = true := decide_eq_true c4; clear c4; obtain rfl := Option.some.inj H; go_enter Try.func74, Try.ntmps74
  go_wp2
  go_ret
  exact ⟨y2_, y11_⟩
 ·rw [if_neg c4] at H; have c4b0 : decide (a1 ≤ a0) = false := decide_eq_false c4; clear c4; obtain rfl := Option.some.inj H; go_enter Try.func74, Try.ntmps74
  go_wp2
  go_ret
  exact ⟨y2_, y11_⟩

/-! ### spec_l1Name: function 112 -/
def spec_l1Name.l0 : Nat → ByteArray → Int → Option (Int)
  | 0, _, _ => none
  | k + 1, x0, x3 => if x3 < (x0.size : Int) then (if 0 ≤ x3 then (if (bt x0 x3) < 97 then (some 5) else (if (bt x0 x3) > 122 then (some 5) else (spec_l1Name.l0 k x0 (wrap64 (x3 + 1))))) else (none)) else (if x0.toList = ([] : List UInt8) then (some 5) else (if (x0.size : Int) > 8 then (some 2) else (some 0)))
def spec_l1Name.f (k : Nat) (a0 : ByteArray) : Option (Int) := spec_l1Name.l0 k a0 0
theorem spec_l1Name.mono_l : ∀ k, (∀ y0 y1, LeO (spec_l1Name.l0 k y0 y1) (spec_l1Name.l0 (k + 1) y0 y1))
  | 0 => fun _ _ r h => by simp [spec_l1Name.l0] at h
  | k + 1 => by
    have ih0 := spec_l1Name.mono_l k
    · intro y0 y1
      unfold spec_l1Name.l0
      repeat' (with_reducible first | exact ih0 _ _ | exact LeO.refl _ | exact LeO.none _ | refine LeO.ite ?_ ?_ | refine LeO.bind ?_ (fun _ => ?_))
theorem spec_l1Name.mono : ∀ a0 k, LeO (spec_l1Name.f k a0) (spec_l1Name.f (k + 1) a0) := by
  intro a0 k
  have ih0 := spec_l1Name.mono_l k
  unfold spec_l1Name.f
  repeat' (with_reducible first | exact ih0 _ _ | exact LeO.refl _ | exact LeO.none _ | refine LeO.ite ?_ ?_ | refine LeO.bind ?_ (fun _ => ?_))
set_option maxHeartbeats 8000000 in
set_option maxRecDepth 100000 in
theorem spec_l1Name.calls (k : Nat) (a0 : ByteArray) (r : Int) (w : World) (h : spec_l1Name.f k a0 = some r) :
    Calls Try.prog 112 #[.string a0] w fun e w' => e = .returned (.int .i64 r) ∧ Drawn0 w w' := by
 have H : (spec_l1Name.l0 k a0 0) = some r := h; clear h; have H' := Aside0.mk H; clear H; go_enter Try.func112, Try.ntmps112
 go_wp2
 go_loopg [3] k (fun kq v3 w' => ∃ (x3_1 : Int), v3 = .int .i64 x3_1 ∧ Aside0 (spec_l1Name.l0 kq a0 x3_1 = some r) ∧ Aside0 (kq ≤ k) ∧ Drawn0 w w')
 case atStart => exact ⟨(0), y2_, H', ⟨Nat.le_refl _⟩, y11_⟩
 case round =>
  clear H'; (try clear c1); obtain ⟨x3_1, rfl, HA, HK1, ⟨m1, rfl⟩⟩ := hrel; cases gk with
  | zero => exact absurd HA.out (by simp [spec_l1Name.l0])
  | succ k1 =>
   have H := HA.out; clear HA; simp only [spec_l1Name.l0] at H; by_cases cx0 : x3_1 < (a0.size : Int); rw [if_pos cx0] at H; have cx0b0 : decide (x3_1 < (a0.size : Int)) = true := decide_eq_true cx0; clear cx0; by_cases cx1 : 0 ≤ x3_1; rw [if_pos cx1] at H; have cx1b0 : decide (0 ≤ x3_1) = true := decide_eq_true cx1; clear cx1; by_cases cx2 : (bt a0 x3_1) < 97; rw [if_pos cx2] at H; have cx2b0 : decide ((bt a0 x3_1) < 97) = true := decide_eq_true cx2; clear cx2; obtain rfl := Option.some.inj H; have mk0_0 := True.intro; have mk0_1 := True.intro; rotate_left; rw [if_neg cx2] at H; have cx2b0 : decide ((bt a0 x3_1) < 97) = false := decide_eq_false cx2; clear cx2; by_cases cx3 : (bt a0 x3_1) > 122; rw [if_pos cx3] at H; have cx3b0 : decide (122 < (bt a0 x3_1)) = true := decide_eq_true cx3; clear cx3; obtain rfl := Option.some.inj H; have mk0_0 := True.intro; have mk0_2 := True.intro; have mk0_3 := True.intro; rotate_left; rw [if_neg cx3] at H; have cx3b0 : decide (122 < (bt a0 x3_1)) = false := decide_eq_false cx3; clear cx3; have H' := Aside0.mk H; clear H; have mk0_0 := True.intro; have mk0_2 := True.intro; have mk0_4 := True.intro; rotate_left
   ·rw [if_neg cx1] at H; exact absurd H (by simp)
   rw [if_neg cx0] at H; have cx0b0 : decide (x3_1 < (a0.size : Int)) = false := decide_eq_false cx0; clear cx0; by_cases cx1 : a0.toList = ([] : List UInt8); rw [if_pos cx1] at H; have cx1b0 : (a0.toList == ([] : List UInt8)) = true := beq_iff_eq.mpr cx1; have cx1b1 : (a0.toList != ([] : List UInt8)) = false := bne_eq_false_iff_eq.mpr cx1; clear cx1; obtain rfl := Option.some.inj H; have mk0_5 := True.intro; rotate_left; rw [if_neg cx1] at H; have cx1b0 : (a0.toList == ([] : List UInt8)) = false := beq_eq_false_iff_ne.mpr cx1; have cx1b1 : (a0.toList != ([] : List UInt8)) = true := bne_iff_ne.mpr cx1; by_cases cx2 : (a0.size : Int) > 8; rw [if_pos cx2] at H; have cx2b0 : decide (8 < (a0.size : Int)) = true := decide_eq_true cx2; have cx2b1 : decide (8 < a0.size) = true := decide_eq_true (by omega); clear cx2; obtain rfl := Option.some.inj H; have mk0_6 := True.intro; rotate_left; rw [if_neg cx2] at H; have cx2b0 : decide (8 < (a0.size : Int)) = false := decide_eq_false cx2; have cx2b1 : decide (8 < a0.size) = false := decide_eq_false (by omega); clear cx2; obtain rfl := Option.some.inj H; have mk0_7 := True.intro; rotate_left
   all_goals (
    first
    | fail_if_success clear mk0_0
    |(clear mk0_0; have p9922068 : 0 ≤ (x3_1 : Int) := of_decide_eq_true y3_; have q9922068 : x3_1 < (a0.size : Int) := of_decide_eq_true y3_; have hx9922068 := bt_at a0 x3_1; replace p9922068 := eq_true p9922068; replace q9922068 := eq_true q9922068)
    first
    | fail_if_success clear mk0_1
    |(clear mk0_1; go_wp2
      go_ret
      exact ⟨y2_, y11_⟩)
    first
    | fail_if_success clear mk0_2
    |(clear mk0_2; have p9548309 : 0 ≤ (x3_1 : Int) := of_decide_eq_true y3_; have q9548309 : x3_1 < (a0.size : Int) := of_decide_eq_true y3_; have hx9548309 := bt_at a0 x3_1; replace p9548309 := eq_true p9548309; replace q9548309 := eq_true q9548309; go_wp2)
    first
    | fail_if_success clear mk0_3
    |(clear mk0_3; go_ret
      exact ⟨y2_, y11_⟩)
    first
    | fail_if_success clear mk0_4
    |(clear mk0_4; go_roundg k1
      case measure => have := HK1.out; omega
      case rel => exact ⟨(wrap64 (x3_1 + 1)), y2_, H', ⟨y77_⟩, y11_⟩)
    first
    | fail_if_success clear mk0_5
    |(clear mk0_5; go_wp2
      go_ret
      exact ⟨y2_, y11_⟩)
    first
    | fail_if_success clear mk0_6
    |(clear mk0_6; go_wp2
      go_ret
      exact ⟨y2_, y11_⟩)
    first
    | fail_if_success clear mk0_7
    |(clear mk0_7; go_wp2
      go_ret
      exact ⟨y2_, y11_⟩))

/-! ### spec_l4Bare: function 114 -/
def spec_l4Bare.f (a0 : S78) : Option (Bool) := (spec_l1In.f ((rd_T78 [a0] 0).f0) 5 8).bind fun t108 => (if ((rd_T78 [a0] 0).f0) = 2 then (if t108 = true then (if ((rd_T78 [a0] 0).f0) = 7 then (some true) else (some ((((rd_T78 [a0] 0).f5).length : Int) == 0))) else (if ((rd_T78 [a0] 0).f3) = 0 then (if ((rd_T78 [a0] 0).f0) = 7 then (some true) else (some ((((rd_T78 [a0] 0).f5).length : Int) == 0))) else (some false))) else (if ((rd_T78 [a0] 0).f2).toList = ([] : List UInt8) then (if t108 = true then (if ((rd_T78 [a0] 0).f0) = 7 then (some true) else (some ((((rd_T78 [a0] 0).f5).length : Int) == 0))) else (if ((rd_T78 [a0] 0).f3) = 0 then (if ((rd_T78 [a0] 0).f0) = 7 then (some true) else (some ((((rd_T78 [a0] 0).f5).length : Int) == 0))) else (some false))) else (some false)))
set_option maxHeartbeats 8000000 in
set_option maxRecDepth 100000 in
theorem spec_l4Bare.calls (adp0 : Addr) (a0 : S78) (r : Bool) (w : World) (hr0 : Kd.C k78 w (some adp0) 1 [a0]) (h : spec_l4Bare.f a0 = some r) :
    Calls Try.prog 114 #[.pointer (some adp0)] w fun e w' => e = .returned (.bool r) ∧ Drawn0 w w' := by
 have HR0 := Aside0.mk hr0; clear hr0; have H : ((spec_l1In.f ((rd_T78 [a0] 0).f0) 5 8).bind fun t108 => (if ((rd_T78 [a0] 0).f0) = 2 then (if t108 = true then (if ((rd_T78 [a0] 0).f0) = 7 then (some true) else (some ((((rd_T78 [a0] 0).f5).length : Int) == 0))) else (if ((rd_T78 [a0] 0).f3) = 0 then (if ((rd_T78 [a0] 0).f0) = 7 then (some true) else (some ((((rd_T78 [a0] 0).f5).length : Int) == 0))) else (some false))) else (if ((rd_T78 [a0] 0).f2).toList = ([] : List UInt8) then (if t108 = true then (if ((rd_T78 [a0] 0).f0) = 7 then (some true) else (some ((((rd_T78 [a0] 0).f5).length : Int) == 0))) else (if ((rd_T78 [a0] 0).f3) = 0 then (if ((rd_T78 [a0] 0).f0) = 7 then (some true) else (some ((((rd_T78 [a0] 0).f5).length : Int) == 0))) else (some false))) else (some false)))) = some r := h; clear h; replace H := Option.bind_eq_some_iff.mp H; obtain ⟨tx0, Ay0, H⟩ := H; have Ax0 := Aside0.mk Ay0; clear Ay0; by_cases cx1 : ((rd_T78 [a0] 0).f0) = 2; rw [if_pos cx1] at H; have cx1b0 : (((rd_T78 [a0] 0).f0) == 2) = true := beq_iff_eq.mpr cx1; have cx1b1 : (((rd_T78 [a0] 0).f0) != 2) = false := bne_eq_false_iff_eq.mpr cx1; clear cx1; by_cases cx2 : tx0 = true; subst cx2; rw [if_pos rfl] at H; by_cases cx3 : ((rd_T78 [a0] 0).f0) = 7; rw [if_pos cx3] at H; have cx3b0 : (((rd_T78 [a0] 0).f0) == 7) = true := beq_iff_eq.mpr cx3; have cx3b1 : (((rd_T78 [a0] 0).f0) != 7) = false := bne_eq_false_iff_eq.mpr cx3; clear cx3; obtain rfl := Option.some.inj H; have mk0_0 := True.intro; rotate_left; rw [if_neg cx3] at H; have cx3b0 : (((rd_T78 [a0] 0).f0) == 7) = false := beq_eq_false_iff_ne.mpr cx3; have cx3b1 : (((rd_T78 [a0] 0).f0) != 7) = true := bne_iff_ne.mpr cx3; obtain rfl := Option.some.inj H; have mk0_0 := True.intro; rotate_left; replace cx2 := Bool.eq_false_iff.mpr cx2; subst cx2; rw [if_neg (show ¬ (false = true) by decide)] at H; by_cases cx3 : ((rd_T78 [a0] 0).f3) = 0; rw [if_pos cx3] at H; have cx3b0 : (((rd_T78 [a0] 0).f3) == 0) = true := beq_iff_eq.mpr cx3; have cx3b1 : (((rd_T78 [a0] 0).f3) != 0) = false := bne_eq_false_iff_eq.mpr cx3; clear cx3; by_cases cx4 : ((rd_T78 [a0] 0).f0) = 7; rw [if_pos cx4] at H; have cx4b0 : (((rd_T78 [a0] 0).f0) == 7) = true := beq_iff_eq.mpr cx4; have cx4b1 : (((rd_T78 [a0] 0).f0) != 7) = false := bne_eq_false_iff_eq.mpr cx4; clear cx4; obtain rfl := Option.some.inj H; have mk0_0 := True.intro; rotate_left; rw [if_neg cx4] at H; have cx4b0 : (((rd_T78 [a0] 0).f0) == 7) = false := beq_eq_false_iff_ne.mpr cx4; have cx4b1 : (((rd_T78 [a0] 0).f0) != 7) = true := bne_iff_ne.mpr cx4; obtain rfl := Option.some.inj H; have mk0_0 := True.intro; rotate_left; rw [if_neg cx3] at H; have cx3b0 : (((rd_T78 [a0] 0).f3) == 0) = false := beq_eq_false_iff_ne.mpr cx3; have cx3b1 : (((rd_T78 [a0] 0).f3) != 0) = true := bne_iff_ne.mpr cx3; obtain rfl := Option.some.inj H; have mk0_0 := True.intro; rotate_left; rw [if_neg cx1] at H; have cx1b0 : (((rd_T78 [a0] 0).f0) == 2) = false := beq_eq_false_iff_ne.mpr cx1
 have cx1b1 : (((rd_T78 [a0] 0).f0) != 2) = true := bne_iff_ne.mpr cx1; by_cases cx2 : ((rd_T78 [a0] 0).f2).toList = ([] : List UInt8); rw [if_pos cx2] at H; have cx2b0 : (((rd_T78 [a0] 0).f2).toList == ([] : List UInt8)) = true := beq_iff_eq.mpr cx2; have cx2b1 : (((rd_T78 [a0] 0).f2).toList != ([] : List UInt8)) = false := bne_eq_false_iff_eq.mpr cx2; clear cx2; by_cases cx3 : tx0 = true; subst cx3; rw [if_pos rfl] at H; by_cases cx4 : ((rd_T78 [a0] 0).f0) = 7; rw [if_pos cx4] at H; have cx4b0 : (((rd_T78 [a0] 0).f0) == 7) = true := beq_iff_eq.mpr cx4; have cx4b1 : (((rd_T78 [a0] 0).f0) != 7) = false := bne_eq_false_iff_eq.mpr cx4; clear cx4; obtain rfl := Option.some.inj H; have mk0_0 := True.intro; rotate_left; rw [if_neg cx4] at H; have cx4b0 : (((rd_T78 [a0] 0).f0) == 7) = false := beq_eq_false_iff_ne.mpr cx4; have cx4b1 : (((rd_T78 [a0] 0).f0) != 7) = true := bne_iff_ne.mpr cx4; obtain rfl := Option.some.inj H; have mk0_0 := True.intro; rotate_left; replace cx3 := Bool.eq_false_iff.mpr cx3; subst cx3; rw [if_neg (show ¬ (false = true) by decide)] at H; by_cases cx4 : ((rd_T78 [a0] 0).f3) = 0; rw [if_pos cx4] at H; have cx4b0 : (((rd_T78 [a0] 0).f3) == 0) = true := beq_iff_eq.mpr cx4; have cx4b1 : (((rd_T78 [a0] 0).f3) != 0) = false := bne_eq_false_iff_eq.mpr cx4; clear cx4; by_cases cx5 : ((rd_T78 [a0] 0).f0) = 7; rw [if_pos cx5] at H; have cx5b0 : (((rd_T78 [a0] 0).f0) == 7) = true := beq_iff_eq.mpr cx5; have cx5b1 : (((rd_T78 [a0] 0).f0) != 7) = false := bne_eq_false_iff_eq.mpr cx5; clear cx5; obtain rfl := Option.some.inj H; have mk0_0 := True.intro; rotate_left; rw [if_neg cx5] at H; have cx5b0 : (((rd_T78 [a0] 0).f0) == 7) = false := beq_eq_false_iff_ne.mpr cx5; have cx5b1 : (((rd_T78 [a0] 0).f0) != 7) = true := bne_iff_ne.mpr cx5; obtain rfl := Option.some.inj H; have mk0_0 := True.intro; rotate_left; rw [if_neg cx4] at H; have cx4b0 : (((rd_T78 [a0] 0).f3) == 0) = false := beq_eq_false_iff_ne.mpr cx4; have cx4b1 : (((rd_T78 [a0] 0).f3) != 0) = true := bne_iff_ne.mpr cx4; obtain rfl := Option.some.inj H; have mk0_0 := True.intro; rotate_left; rw [if_neg cx2] at H; have cx2b0 : (((rd_T78 [a0] 0).f2).toList == ([] : List UInt8)) = false := beq_eq_false_iff_ne.mpr cx2; have cx2b1 : (((rd_T78 [a0] 0).f2).toList != ([] : List UInt8)) = true := bne_iff_ne.mpr cx2; obtain rfl := Option.some.inj H; have mk0_1 := True.intro; rotate_left
 all_goals (
  have p9922068 : 0 ≤ (0 : Int) := (by omega); have q9922068 : 0 < ([a0].length : Int) := (by simp); obtain ⟨ad9922068, A107_4, c107_4, A107_5, c107_5, e9922068, hx9922068_0, hx9922068_1, hx9922068_2, hx9922068_3, hx9922068_4, hx9922068_5, hl9922068_4, hi107_4, hl9922068_5, hi107_5⟩ := at_T78 HR0.out 0 p9922068 q9922068; obtain rfl : adp0 = ad9922068 := (by injection e9922068); have qi107 : (0 < [a0].length) = True := eq_true (by omega); (try rw [show ((0 : Int)).toNat = 0 from rfl] at hx9922068_0); (try rw [show 0 * 6 = 0 from rfl] at hx9922068_0); (try rw [Addr.add_zero'] at hx9922068_0); (try rw [show ((0 : Int)).toNat = 0 from rfl] at hx9922068_1); (try rw [show 0 * 6 = 0 from rfl] at hx9922068_1); (try rw [Addr.add_zero'] at hx9922068_1); (try rw [show ((0 : Int)).toNat = 0 from rfl] at hx9922068_2); (try rw [show 0 * 6 = 0 from rfl] at hx9922068_2); (try rw [Addr.add_zero'] at hx9922068_2); (try rw [show ((0 : Int)).toNat = 0 from rfl] at hx9922068_3); (try rw [show 0 * 6 = 0 from rfl] at hx9922068_3); (try rw [Addr.add_zero'] at hx9922068_3); (try rw [show ((0 : Int)).toNat = 0 from rfl] at hx9922068_4); (try rw [show 0 * 6 = 0 from rfl] at hx9922068_4); (try rw [Addr.add_zero'] at hx9922068_4); (try rw [show ((0 : Int)).toNat = 0 from rfl] at hx9922068_5); (try rw [show 0 * 6 = 0 from rfl] at hx9922068_5); (try rw [Addr.add_zero'] at hx9922068_5); have HR107_4 := Aside0.mk hi107_4; have HC107_4 := Aside0.mk hl9922068_4; clear hi107_4 hl9922068_4; have HR107_5 := Aside0.mk hi107_5; have HC107_5 := Aside0.mk hl9922068_5; clear hi107_5 hl9922068_5; replace p9922068 := eq_true p9922068; replace q9922068 := eq_true q9922068; go_enter Try.func114, Try.ntmps114
  go_wp2_with (first | (have mkq_ := mk0_0; clear mkq_; (with_reducible refine gate_callee (f := 74) rfl ?_); refine goesL_ (some 8) rfl rfl Try.func74 (by kernel_rfl) rfl #[.int .i64 ((rd_T78 [a0] 0).f0), .int .i64 5, .int .i64 8] rfl y1_ ?_; (with_reducible refine (spec_l1In.calls ((rd_T78 [a0] 0).f0) 5 8 _ _ Ax0.out).mono ?_); rintro e w' ⟨rfl, ⟨nd, rfl⟩⟩; refine ⟨_, rfl, ?_⟩) | (have mkq_ := mk0_1; clear mkq_; (with_reducible refine gate_callee (f := 74) rfl ?_); refine goesL_ (some 8) rfl rfl Try.func74 (by kernel_rfl) rfl #[.int .i64 ((rd_T78 [a0] 0).f0), .int .i64 5, .int .i64 8] rfl y1_ ?_; (with_reducible refine (spec_l1In.calls ((rd_T78 [a0] 0).f0) 5 8 tx0 _ Ax0.out).mono ?_); rintro e w' ⟨rfl, ⟨nd, rfl⟩⟩; refine ⟨_, rfl, ?_⟩))
  go_ret
  exact ⟨y2_, y11_⟩)

/-! ### spec_l4Line: function 115 -/
def spec_l4Line.l0 : Nat → List (S78) → Int → Int → Option (Bool)
  | 0, _, _, _ => none
  | k + 1, x0, x1, x5 => if x5 ≥ 0 then (if 0 ≤ x1 then (if x1 < (x0.length : Int) then (if x5 = ((rd_T78 x0 x1).f1) then (some true) else (if 0 ≤ x5 then (if x5 < (x0.length : Int) then (spec_l4Line.l0 k x0 x1 ((rd_T78 x0 x5).f1)) else (none)) else (none))) else (none)) else (none)) else (some false)
def spec_l4Line.f (k : Nat) (l0 : List (S78)) (a1 : Int) : Option (Bool) := spec_l4Line.l0 k l0 a1 (wrap64 (a1 - 1))
theorem spec_l4Line.mono_l : ∀ k, (∀ y0 y1 y2, LeO (spec_l4Line.l0 k y0 y1 y2) (spec_l4Line.l0 (k + 1) y0 y1 y2))
  | 0 => fun _ _ _ r h => by simp [spec_l4Line.l0] at h
  | k + 1 => by
    have ih0 := spec_l4Line.mono_l k
    · intro y0 y1 y2
      unfold spec_l4Line.l0
      repeat' (with_reducible first | exact ih0 _ _ _ | exact LeO.refl _ | exact LeO.none _ | refine LeO.ite ?_ ?_ | refine LeO.bind ?_ (fun _ => ?_))
theorem spec_l4Line.mono : ∀ a0 a1 k, LeO (spec_l4Line.f k a0 a1) (spec_l4Line.f (k + 1) a0 a1) := by
  intro a0 a1 k
  have ih0 := spec_l4Line.mono_l k
  unfold spec_l4Line.f
  repeat' (with_reducible first | exact ih0 _ _ _ | exact LeO.refl _ | exact LeO.none _ | refine LeO.ite ?_ ?_ | refine LeO.bind ?_ (fun _ => ?_))
set_option maxHeartbeats 8000000 in
set_option maxRecDepth 100000 in
theorem spec_l4Line.calls (k : Nat) (A0 : Option Addr) (c0 : Nat) (l0 : List (S78)) (a1 : Int) (r : Bool) (w : World) (hr0 : Kd.C k78 w A0 l0.length l0) (hc0 : l0.length ≤ c0) (h : spec_l4Line.f k l0 a1 = some r) :
    Calls Try.prog 115 #[.slice A0 l0.length c0, .int .i64 a1] w fun e w' => e = .returned (.bool r) ∧ Drawn0 w w' := by
 have HR0 := Aside0.mk hr0; have HC0 := Aside0.mk hc0; clear hr0 hc0; have H : (spec_l4Line.l0 k l0 a1 (wrap64 (a1 - 1))) = some r := h; clear h; have H' := Aside0.mk H; clear H; go_enter Try.func115, Try.ntmps115
 go_wp2
 go_loopg [5] k (fun kq v5 w' => ∃ (x5_1 : Int), v5 = .int .i64 x5_1 ∧ Aside0 (spec_l4Line.l0 kq l0 a1 x5_1 = some r) ∧ Aside0 (kq ≤ k) ∧ Drawn0 w w')
 case atStart => exact ⟨(wrap64 (a1 - 1)), y2_, H', ⟨Nat.le_refl _⟩, y11_⟩
 case round =>
  clear H'; (try clear c1); (try clear p2); obtain ⟨x5_1, rfl, HA, HK1, ⟨m1, rfl⟩⟩ := hrel; cases gk with
  | zero => exact absurd HA.out (by simp [spec_l4Line.l0])
  | succ k1 =>
   have H := HA.out; clear HA; simp only [spec_l4Line.l0] at H; by_cases cx0 : x5_1 ≥ 0; rw [if_pos cx0] at H; have cx0b0 : decide (0 ≤ x5_1) = true := decide_eq_true cx0; clear cx0; by_cases cx1 : 0 ≤ a1; rw [if_pos cx1] at H; have cx1b0 : decide (0 ≤ a1) = true := decide_eq_true cx1; clear cx1; by_cases cx2 : a1 < (l0.length : Int); rw [if_pos cx2] at H; have cx2b0 : decide (a1 < (l0.length : Int)) = true := decide_eq_true cx2; clear cx2; by_cases cx3 : x5_1 = ((rd_T78 l0 a1).f1); rw [if_pos cx3] at H; have cx3b0 : (x5_1 == ((rd_T78 l0 a1).f1)) = true := beq_iff_eq.mpr cx3; have cx3b1 : (x5_1 != ((rd_T78 l0 a1).f1)) = false := bne_eq_false_iff_eq.mpr cx3; clear cx3; obtain rfl := Option.some.inj H; have mk0_0 := True.intro; have mk0_1 := True.intro; rotate_left; rw [if_neg cx3] at H; have cx3b0 : (x5_1 == ((rd_T78 l0 a1).f1)) = false := beq_eq_false_iff_ne.mpr cx3; have cx3b1 : (x5_1 != ((rd_T78 l0 a1).f1)) = true := bne_iff_ne.mpr cx3; by_cases cx4 : 0 ≤ x5_1; rw [if_pos cx4] at H; have cx4b0 : decide (0 ≤ x5_1) = true := decide_eq_true cx4; clear cx4; by_cases cx5 : x5_1 < (l0.length : Int); rw [if_pos cx5] at H; have cx5b0 : decide (x5_1 < (l0.length : Int)) = true := decide_eq_true cx5; clear cx5; have H' := Aside0.mk H; clear H; have mk0_0 := True.intro; have mk0_2 := True.intro; rotate_left
   ·rw [if_neg cx5] at H; exact absurd H (by simp)
   ·rw [if_neg cx4] at H; exact absurd H (by simp)
   ·rw [if_neg cx2] at H; exact absurd H (by simp)
   ·rw [if_neg cx1] at H; exact absurd H (by simp)
   rw [if_neg cx0] at H; have cx0b0 : decide (0 ≤ x5_1) = false := decide_eq_false cx0; clear cx0; obtain rfl := Option.some.inj H; have mk0_3 := True.intro; rotate_left
   all_goals (
    first
    | fail_if_success clear mk0_0
    |(clear mk0_0; have p9922068 : 0 ≤ (a1 : Int) := of_decide_eq_true y3_; have q9922068 : a1 < (l0.length : Int) := of_decide_eq_true y3_; have BD109 := Aside0.mk (And.intro p9922068 q9922068); obtain ⟨ad9922068, A109_4, c109_4, A109_5, c109_5, e9922068, hx9922068_0, hx9922068_1, hx9922068_2, hx9922068_3, hx9922068_4, hx9922068_5, hl9922068_4, hi109_4, hl9922068_5, hi109_5⟩ := at_T78 HR0.out a1 p9922068 q9922068; cases e9922068; have HR109_4 := Aside0.mk hi109_4; have HC109_4 := Aside0.mk hl9922068_4; clear hi109_4 hl9922068_4; have HR109_5 := Aside0.mk hi109_5; have HC109_5 := Aside0.mk hl9922068_5; clear hi109_5 hl9922068_5; replace p9922068 := eq_true p9922068; replace q9922068 := eq_true q9922068)
    first
    | fail_if_success clear mk0_1
    |(clear mk0_1; go_wp2
      go_ret
      exact ⟨y2_, y11_⟩)
    first
    | fail_if_success clear mk0_2
    |(clear mk0_2; have p9548309 : 0 ≤ (x5_1 : Int) := of_decide_eq_true y3_; have q9548309 : x5_1 < (l0.length : Int) := of_decide_eq_true y3_; have BD110 := Aside0.mk (And.intro p9548309 q9548309); obtain ⟨ad9548309, A110_4, c110_4, A110_5, c110_5, e9548309, hx9548309_0, hx9548309_1, hx9548309_2, hx9548309_3, hx9548309_4, hx9548309_5, hl9548309_4, hi110_4, hl9548309_5, hi110_5⟩ := at_T78 HR0.out x5_1 p9548309 q9548309; obtain rfl : ad9922068 = ad9548309 := (by injection e9548309); have HR110_4 := Aside0.mk hi110_4; have HC110_4 := Aside0.mk hl9548309_4; clear hi110_4 hl9548309_4; have HR110_5 := Aside0.mk hi110_5; have HC110_5 := Aside0.mk hl9548309_5; clear hi110_5 hl9548309_5; replace p9548309 := eq_true p9548309; replace q9548309 := eq_true q9548309; go_wp2
      go_roundg k1
      case measure => have := HK1.out; omega
      case rel => exact ⟨((rd_T78 l0 x5_1).f1), y2_, H', ⟨y77_⟩, y11_⟩)
    first
    | fail_if_success clear mk0_3
    |(clear mk0_3; go_wp2
      go_ret
      exact ⟨y2_, y11_⟩))

/-! ### spec_l4Arg: function 116 -/
def spec_l4Arg.j0 : Nat → S78 → Int → Bool → Bool → Option (Bool)
  | 0, _, _, _, _ => none
  | k + 1, x0, x6, x7, x14 => if x14 = true then ((spec_l1In.f ((rd_T78 [x0] 0).f3) 1 99).bind fun t114 => (some t114)) else (if x6 = 7 then ((spec_l1In.f ((rd_T78 [x0] 0).f3) 0 3).bind fun t116 => (some t116)) else (some true))
def spec_l4Arg.f (k : Nat) (a0 : S78) : Option (Bool) := if ((rd_T78 [a0] 0).f0) = 5 then ((spec_l1In.f ((rd_T78 [a0] 0).f3) 0 9).bind fun t112 => (some t112)) else (if ((rd_T78 [a0] 0).f0) = 6 then (spec_l4Arg.j0 k a0 ((rd_T78 [a0] 0).f0) (((rd_T78 [a0] 0).f0) == 5) (((rd_T78 [a0] 0).f0) == 6)) else (spec_l4Arg.j0 k a0 ((rd_T78 [a0] 0).f0) (((rd_T78 [a0] 0).f0) == 5) (((rd_T78 [a0] 0).f0) == 8)))
theorem spec_l4Arg.mono_l : ∀ k, (∀ y0 y1 y2 y3, LeO (spec_l4Arg.j0 k y0 y1 y2 y3) (spec_l4Arg.j0 (k + 1) y0 y1 y2 y3))
  | 0 => fun _ _ _ _ r h => by simp [spec_l4Arg.j0] at h
  | k + 1 => by
    have ih0 := spec_l4Arg.mono_l k
    · intro y0 y1 y2 y3
      unfold spec_l4Arg.j0
      repeat' (with_reducible first | exact ih0 _ _ _ _ | exact LeO.refl _ | exact LeO.none _ | refine LeO.ite ?_ ?_ | refine LeO.bind ?_ (fun _ => ?_))
theorem spec_l4Arg.mono : ∀ a0 k, LeO (spec_l4Arg.f k a0) (spec_l4Arg.f (k + 1) a0) := by
  intro a0 k
  have ih0 := spec_l4Arg.mono_l k
  unfold spec_l4Arg.f
  repeat' (with_reducible first | exact ih0 _ _ _ _ | exact LeO.refl _ | exact LeO.none _ | refine LeO.ite ?_ ?_ | refine LeO.bind ?_ (fun _ => ?_))
set_option maxHeartbeats 8000000 in
set_option maxRecDepth 100000 in
theorem spec_l4Arg.calls (k : Nat) (adp0 : Addr) (a0 : S78) (r : Bool) (w : World) (hr0 : Kd.C k78 w (some adp0) 1 [a0]) (h : spec_l4Arg.f k a0 = some r) :
    Calls Try.prog 116 #[.pointer (some adp0)] w fun e w' => e = .returned (.bool r) ∧ Drawn0 w w' := by
 have HR0 := Aside0.mk hr0; clear hr0; have H : (if ((rd_T78 [a0] 0).f0) = 5 then ((spec_l1In.f ((rd_T78 [a0] 0).f3) 0 9).bind fun t112 => (some t112)) else (if ((rd_T78 [a0] 0).f0) = 6 then (spec_l4Arg.j0 k a0 ((rd_T78 [a0] 0).f0) (((rd_T78 [a0] 0).f0) == 5) (((rd_T78 [a0] 0).f0) == 6)) else (spec_l4Arg.j0 k a0 ((rd_T78 [a0] 0).f0) (((rd_T78 [a0] 0).f0) == 5) (((rd_T78 [a0] 0).f0) == 8)))) = some r := h; clear h; by_cases cx0 : ((rd_T78 [a0] 0).f0) = 5; rw [if_pos cx0] at H; have cx0b0 : (((rd_T78 [a0] 0).f0) == 5) = true := beq_iff_eq.mpr cx0; have cx0b1 : (((rd_T78 [a0] 0).f0) != 5) = false := bne_eq_false_iff_eq.mpr cx0; clear cx0; replace H := Option.bind_eq_some_iff.mp H; obtain ⟨tx1, Ay1, H⟩ := H; have Ax1 := Aside0.mk Ay1; clear Ay1; obtain rfl := Option.some.inj H; have mk0_0 := True.intro; rotate_left; rw [if_neg cx0] at H; have cx0b0 : (((rd_T78 [a0] 0).f0) == 5) = false := beq_eq_false_iff_ne.mpr cx0; have cx0b1 : (((rd_T78 [a0] 0).f0) != 5) = true := bne_iff_ne.mpr cx0; have HC4 := Aside0.mk H; clear H; have mk0_1 := True.intro; rotate_left
 all_goals (
  have p9922068 : 0 ≤ (0 : Int) := (by omega); have q9922068 : 0 < ([a0].length : Int) := (by simp); obtain ⟨ad9922068, A111_4, c111_4, A111_5, c111_5, e9922068, hx9922068_0, hx9922068_1, hx9922068_2, hx9922068_3, hx9922068_4, hx9922068_5, hl9922068_4, hi111_4, hl9922068_5, hi111_5⟩ := at_T78 HR0.out 0 p9922068 q9922068; obtain rfl : adp0 = ad9922068 := (by injection e9922068); have qi111 : (0 < [a0].length) = True := eq_true (by omega); (try rw [show ((0 : Int)).toNat = 0 from rfl] at hx9922068_0); (try rw [show 0 * 6 = 0 from rfl] at hx9922068_0); (try rw [Addr.add_zero'] at hx9922068_0); (try rw [show ((0 : Int)).toNat = 0 from rfl] at hx9922068_1); (try rw [show 0 * 6 = 0 from rfl] at hx9922068_1); (try rw [Addr.add_zero'] at hx9922068_1); (try rw [show ((0 : Int)).toNat = 0 from rfl] at hx9922068_2); (try rw [show 0 * 6 = 0 from rfl] at hx9922068_2); (try rw [Addr.add_zero'] at hx9922068_2); (try rw [show ((0 : Int)).toNat = 0 from rfl] at hx9922068_3); (try rw [show 0 * 6 = 0 from rfl] at hx9922068_3); (try rw [Addr.add_zero'] at hx9922068_3); (try rw [show ((0 : Int)).toNat = 0 from rfl] at hx9922068_4); (try rw [show 0 * 6 = 0 from rfl] at hx9922068_4); (try rw [Addr.add_zero'] at hx9922068_4); (try rw [show ((0 : Int)).toNat = 0 from rfl] at hx9922068_5); (try rw [show 0 * 6 = 0 from rfl] at hx9922068_5); (try rw [Addr.add_zero'] at hx9922068_5); have HR111_4 := Aside0.mk hi111_4; have HC111_4 := Aside0.mk hl9922068_4; clear hi111_4 hl9922068_4; have HR111_5 := Aside0.mk hi111_5; have HC111_5 := Aside0.mk hl9922068_5; clear hi111_5 hl9922068_5; replace p9922068 := eq_true p9922068; replace q9922068 := eq_true q9922068; go_enter Try.func116, Try.ntmps116
  first
  | fail_if_success clear mk0_0
  |(clear mk0_0; go_wp2_with (first | ((with_reducible refine gate_callee (f := 74) rfl ?_); refine goesL_ (some 13) rfl rfl Try.func74 (by kernel_rfl) rfl #[.int .i64 ((rd_T78 [a0] 0).f3), .int .i64 0, .int .i64 9] rfl y1_ ?_; (with_reducible refine (spec_l1In.calls ((rd_T78 [a0] 0).f3) 0 9 tx1 _ Ax1.out).mono ?_); rintro e w' ⟨rfl, ⟨nd, rfl⟩⟩; refine ⟨_, rfl, ?_⟩))
    go_ret
    exact ⟨y2_, y11_⟩)
  first
  | fail_if_success clear mk0_1
  |(clear mk0_1; go_upto_if 14 with (fail)
    go_cut [7, 14] (fun v9031657 v9937394 wc => ∃ (kq : Nat) (x7_3 : Bool) (x14_3 : Bool), v9031657 = .bool x7_3 ∧ v9937394 = .bool x14_3 ∧ Aside0 (spec_l4Arg.j0 kq a0 ((rd_T78 [a0] 0).f0) x7_3 x14_3 = some r) ∧ Aside0 (kq ≤ k) ∧ Drawn0 w wc)
    case first =>
     have H := HC4.out; clear HC4; by_cases cx1 : ((rd_T78 [a0] 0).f0) = 6
     ·rw [if_pos cx1] at H; have cx1b0 : (((rd_T78 [a0] 0).f0) == 6) = true := beq_iff_eq.mpr cx1; have cx1b1 : (((rd_T78 [a0] 0).f0) != 6) = false := bne_eq_false_iff_eq.mpr cx1; clear cx1; (first | rw [cx1b0] | (simp only [i64_w, i32_w]; rw [cx1b0]) | skip); have H' := Aside0.mk H; clear H; go_wp2
      go_meet
      case rel => exact ⟨_, ((((rd_T78 [a0] 0).f0) == 5)), ((((rd_T78 [a0] 0).f0) == 6)), y2_, y2_, H', ⟨y46_⟩, y11_⟩
     ·rw [if_neg cx1] at H; have cx1b0 : (((rd_T78 [a0] 0).f0) == 6) = false := beq_eq_false_iff_ne.mpr cx1; have cx1b1 : (((rd_T78 [a0] 0).f0) != 6) = true := bne_iff_ne.mpr cx1; (first | rw [cx1b0] | (simp only [i64_w, i32_w]; rw [cx1b0]) | skip); have H' := Aside0.mk H; clear H; go_wp2
      go_meet
      case rel => exact ⟨_, ((((rd_T78 [a0] 0).f0) == 5)), ((((rd_T78 [a0] 0).f0) == 8)), y2_, y2_, H', ⟨y46_⟩, y11_⟩
    case rest =>
     clear HC4; (try clear c1); (try clear p9550573); (try clear q9550573); (try clear hx9550573); (try clear qi1); (try clear cx0); (try clear cx0b0); (try clear cx0b1); (try clear p9759302); (try clear c5); (try clear c5b0); (try clear c5b1); (try clear hx9922068_0); (try clear hx9922068_1); (try clear hx9922068_2); (try clear hx9922068_3); (try clear hx9922068_4); (try clear hx9922068_5); (try clear p9922068); (try clear q9922068); obtain ⟨kq, x7_3, x14_3, rfl, rfl, HA, HJ3, ⟨mc3, rfl⟩⟩ := hcut; cases kq with
     | zero => exact absurd HA.out (by simp [spec_l4Arg.j0])
     | succ kj3 =>
      have H := HA.out; clear HA; simp only [spec_l4Arg.j0] at H; by_cases cx1 : x14_3 = true; subst cx1; rw [if_pos rfl] at H; replace H := Option.bind_eq_some_iff.mp H; obtain ⟨tx2, Ay2, H⟩ := H; have Ax2 := Aside0.mk Ay2; clear Ay2; obtain rfl := Option.some.inj H; have mk1_0 := True.intro; have mk1_1 := True.intro; have mk1_3 := True.intro; have mk1_4 := True.intro; have mk1_6 := True.intro; have mk1_7 := True.intro; rotate_left; replace cx1 := Bool.eq_false_iff.mpr cx1; subst cx1; rw [if_neg (show ¬ (false = true) by decide)] at H; by_cases cx2 : ((rd_T78 [a0] 0).f0) = 7; rw [if_pos cx2] at H; have cx2b0 : (((rd_T78 [a0] 0).f0) == 7) = true := beq_iff_eq.mpr cx2; have cx2b1 : (((rd_T78 [a0] 0).f0) != 7) = false := bne_eq_false_iff_eq.mpr cx2; clear cx2; replace H := Option.bind_eq_some_iff.mp H; obtain ⟨tx3, Ay3, H⟩ := H; have Ax3 := Aside0.mk Ay3; clear Ay3; obtain rfl := Option.some.inj H; have mk1_0 := True.intro; have mk1_2 := True.intro; have mk1_3 := True.intro; have mk1_5 := True.intro; have mk1_6 := True.intro; have mk1_8 := True.intro; rotate_left; rw [if_neg cx2] at H; have cx2b0 : (((rd_T78 [a0] 0).f0) == 7) = false := beq_eq_false_iff_ne.mpr cx2; have cx2b1 : (((rd_T78 [a0] 0).f0) != 7) = true := bne_iff_ne.mpr cx2; obtain rfl := Option.some.inj H; have mk1_9 := True.intro; rotate_left
      all_goals (
       first
       | fail_if_success clear mk1_0
       |(clear mk1_0; have p9548309 : 0 ≤ (0 : Int) := (by omega); have q9548309 : 0 < ([a0].length : Int) := (by simp))
       first
       | fail_if_success clear mk1_1
       |(clear mk1_1; obtain ⟨ad9548309, A113_4, c113_4, A113_5, c113_5, e9548309, hx9548309_0, hx9548309_1, hx9548309_2, hx9548309_3, hx9548309_4, hx9548309_5, hl9548309_4, hi113_4, hl9548309_5, hi113_5⟩ := at_T78 HR0.out 0 p9548309 q9548309; obtain rfl : adp0 = ad9548309 := (by injection e9548309); have qi113 : (0 < [a0].length) = True := eq_true (by omega))
       first
       | fail_if_success clear mk1_2
       |(clear mk1_2; obtain ⟨ad9548309, A115_4, c115_4, A115_5, c115_5, e9548309, hx9548309_0, hx9548309_1, hx9548309_2, hx9548309_3, hx9548309_4, hx9548309_5, hl9548309_4, hi115_4, hl9548309_5, hi115_5⟩ := at_T78 HR0.out 0 p9548309 q9548309; obtain rfl : adp0 = ad9548309 := (by injection e9548309); have qi115 : (0 < [a0].length) = True := eq_true (by omega))
       first
       | fail_if_success clear mk1_3
       |(clear mk1_3; (try rw [show ((0 : Int)).toNat = 0 from rfl] at hx9548309_0); (try rw [show 0 * 6 = 0 from rfl] at hx9548309_0); (try rw [Addr.add_zero'] at hx9548309_0); (try rw [show ((0 : Int)).toNat = 0 from rfl] at hx9548309_1); (try rw [show 0 * 6 = 0 from rfl] at hx9548309_1); (try rw [Addr.add_zero'] at hx9548309_1); (try rw [show ((0 : Int)).toNat = 0 from rfl] at hx9548309_2); (try rw [show 0 * 6 = 0 from rfl] at hx9548309_2); (try rw [Addr.add_zero'] at hx9548309_2); (try rw [show ((0 : Int)).toNat = 0 from rfl] at hx9548309_3); (try rw [show 0 * 6 = 0 from rfl] at hx9548309_3); (try rw [Addr.add_zero'] at hx9548309_3); (try rw [show ((0 : Int)).toNat = 0 from rfl] at hx9548309_4); (try rw [show 0 * 6 = 0 from rfl] at hx9548309_4); (try rw [Addr.add_zero'] at hx9548309_4); (try rw [show ((0 : Int)).toNat = 0 from rfl] at hx9548309_5); (try rw [show 0 * 6 = 0 from rfl] at hx9548309_5); (try rw [Addr.add_zero'] at hx9548309_5))
       first
       | fail_if_success clear mk1_4
       |(clear mk1_4; have HR113_4 := Aside0.mk hi113_4; have HC113_4 := Aside0.mk hl9548309_4; clear hi113_4 hl9548309_4; have HR113_5 := Aside0.mk hi113_5; have HC113_5 := Aside0.mk hl9548309_5; clear hi113_5 hl9548309_5)
       first
       | fail_if_success clear mk1_5
       |(clear mk1_5; have HR115_4 := Aside0.mk hi115_4; have HC115_4 := Aside0.mk hl9548309_4; clear hi115_4 hl9548309_4; have HR115_5 := Aside0.mk hi115_5; have HC115_5 := Aside0.mk hl9548309_5; clear hi115_5 hl9548309_5)
       first
       | fail_if_success clear mk1_6
       |(clear mk1_6; replace p9548309 := eq_true p9548309; replace q9548309 := eq_true q9548309; go_wp2_with (first | (have mkq_ := mk1_7; clear mkq_; (with_reducible refine gate_callee (f := 74) rfl ?_); refine goesL_ (some 21) rfl rfl Try.func74 (by kernel_rfl) rfl #[.int .i64 ((rd_T78 [a0] 0).f3), .int .i64 1, .int .i64 99] rfl y1_ ?_; (with_reducible refine (spec_l1In.calls ((rd_T78 [a0] 0).f3) 1 99 tx2 _ Ax2.out).mono ?_); rintro e w' ⟨rfl, ⟨nd, rfl⟩⟩; refine ⟨_, rfl, ?_⟩) | (have mkq_ := mk1_8; clear mkq_; (with_reducible refine gate_callee (f := 74) rfl ?_); refine goesL_ (some 28) rfl rfl Try.func74 (by kernel_rfl) rfl #[.int .i64 ((rd_T78 [a0] 0).f3), .int .i64 0, .int .i64 3] rfl y1_ ?_; (with_reducible refine (spec_l1In.calls ((rd_T78 [a0] 0).f3) 0 3 tx3 _ Ax3.out).mono ?_); rintro e w' ⟨rfl, ⟨nd, rfl⟩⟩; refine ⟨_, rfl, ?_⟩))
         go_ret
         exact ⟨y2_, y11_⟩)
       first
       | fail_if_success clear mk1_9
       |(clear mk1_9; go_wp2
         go_ret
         exact ⟨y2_, y11_⟩))))

/-! ### spec_l3Two: function 132 -/
def spec_l3Two.f (a0 : Int) : Option (Bool) := (spec_l1In.f a0 3 9).bind fun t117 => (some t117)
set_option maxHeartbeats 8000000 in
set_option maxRecDepth 100000 in
theorem spec_l3Two.calls (a0 : Int) (r : Bool) (w : World) (h : spec_l3Two.f a0 = some r) :
    Calls Try.prog 132 #[.int .i64 a0] w fun e w' => e = .returned (.bool r) ∧ Drawn0 w w' := by
 have H : ((spec_l1In.f a0 3 9).bind fun t117 => (some t117)) = some r := h; clear h; replace H := Option.bind_eq_some_iff.mp H; obtain ⟨t117, A20, H⟩ := H; have A2 := Aside0.mk A20; clear A20; obtain rfl := Option.some.inj H; go_enter Try.func132, Try.ntmps132
 go_wp2_with (first | ((with_reducible refine gate_callee (f := 74) rfl ?_); refine goesL_ (some 4) rfl rfl Try.func74 (by kernel_rfl) rfl #[.int .i64 a0, .int .i64 3, .int .i64 9] rfl y1_ ?_; (with_reducible refine (spec_l1In.calls a0 3 9 t117 _ A2.out).mono ?_); rintro e w' ⟨rfl, ⟨nd, rfl⟩⟩; refine ⟨_, rfl, ?_⟩))
 go_ret
 exact ⟨y2_, y11_⟩

end Go.Proofs.Ytcpcenhpmcfmjaa.P
