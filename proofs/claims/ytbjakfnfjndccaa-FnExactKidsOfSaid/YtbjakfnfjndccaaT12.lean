-- Written by a program of this session's own (xp.py) for this seat.
import Derived.Test.YtbjakfnfjndccaaTZ
import Derived.Test.YtbjakfnfjndccaaT0
import Derived.Test.YtbjakfnfjndccaaT1
import Derived.Test.YtbjakfnfjndccaaT2
import Derived.Test.YtbjakfnfjndccaaT6
import Derived.Test.YtbjakfnfjndccaaT8
namespace Go.Proofs.Ytbjakfnfjndccaa.T
open Go.RowKit Go.Proofs.YtbjakfnfjndccaaW.PrintWords Go.Proofs.YtbjakfnfjndccaaW.PrintLast Go.Proofs.YtbjakfnfjndccaaW.PrintMore
attribute [local go_sem] Instr.field asAgg
attribute [local go_sem] max2_int min2_int max_two min_two max_three min_three max_four min_four   -- for this text's walks alone
set_option linter.unusedVariables false
set_option linter.unusedSimpArgs false

/-! ### spec_l2Kids: function 35 -/
def spec_l2Kids.l0 : Nat → List (S48) → Int → List Int → Int → Option (List Int)
  | 0, _, _, _, _ => none
  | k + 1, x0, x1, x5, x6 => if x6 < (x0.length : Int) then (if 0 ≤ x6 then (if ((rd_T48 x0 x6).f1) = x1 then (if x5.length < 17592186044416 then (spec_l2Kids.l0 k x0 x1 (x5 ++ [x6]) (wrap64 (x6 + 1))) else (none)) else (spec_l2Kids.l0 k x0 x1 x5 (wrap64 (x6 + 1)))) else (none)) else (some x5)
def spec_l2Kids.f (k : Nat) (l0 : List (S48)) (a1 : Int) : Option (List Int) := spec_l2Kids.l0 k l0 a1 (([] : List Int)) 0
theorem spec_l2Kids.mono_l : ∀ k, (∀ y0 y1 y2 y3, LeO (spec_l2Kids.l0 k y0 y1 y2 y3) (spec_l2Kids.l0 (k + 1) y0 y1 y2 y3))
  | 0 => fun _ _ _ _ r h => by simp [spec_l2Kids.l0] at h
  | k + 1 => by
    have ih0 := spec_l2Kids.mono_l k
    · intro y0 y1 y2 y3
      unfold spec_l2Kids.l0
      repeat' (with_reducible first | exact ih0 _ _ _ _ | exact LeO.refl _ | exact LeO.none _ | refine LeO.ite ?_ ?_ | refine LeO.bind ?_ (fun _ => ?_))
theorem spec_l2Kids.mono : ∀ a0 a1 k, LeO (spec_l2Kids.f k a0 a1) (spec_l2Kids.f (k + 1) a0 a1) := by
  intro a0 a1 k
  have ih0 := spec_l2Kids.mono_l k
  unfold spec_l2Kids.f
  repeat' (with_reducible first | exact ih0 _ _ _ _ | exact LeO.refl _ | exact LeO.none _ | refine LeO.ite ?_ ?_ | refine LeO.bind ?_ (fun _ => ?_))
set_option maxHeartbeats 8000000 in
set_option maxRecDepth 100000 in
theorem spec_l2Kids.calls (k : Nat) (A0 : Option Addr) (c0 : Nat) (l0 : List (S48)) (a1 : Int) (r : List Int) (w : World) (hr0 : Kd.C k48 w A0 l0.length l0) (hc0 : l0.length ≤ c0) (h : spec_l2Kids.f k l0 a1 = some r) :
    Calls Try.prog 35 #[.slice A0 l0.length c0, .int .i64 a1] w fun e w' => ∃ v0_ : Value, e = .returned (v0_) ∧ Kd.R (Kd.int .i64) 2 w' w.heap.size (fun _ => True) v0_ r ∧ Below w.heap.size w w' := by
 have HR0 := a_ hr0; have HC0 := a_ hc0; clear hr0 hc0; have HB := a_ (Below.refl w.heap.size w); have H : (spec_l2Kids.l0 k l0 a1 (([] : List Int)) 0) = some r := h; clear h; obtain ⟨y330, hy_⟩ : ∃ y_ : List Int, y_ = (([] : List Int)) := ⟨_, rfl⟩; replace H : (spec_l2Kids.l0 k l0 a1 y330 0) = some r := z0_; have Ny330 := a_ hy_; clear hy_; have H' := a_ H; clear H; go_enter Try.func35, Try.ntmps35
 go_wp2_with (first | ((with_reducible refine gate_dst (N := 7) rfl ?_); refine Kd.R_lit (Kd.int .i64) _ 2 ?hg (N := 7) ?hd (xs := ([] : List Int)) (inner := []) (ok := fun _ => True) (okp := fun _ => True) ?hr ?hp (fun _ hk => hk) trivial (Below.refl _ _) (Nat.le_refl _) y100_ ?_; (case hd => rfl); (case hg => rfl); (case hr => first | (go_simp; done) | (go_simp; rfl)); (case hp => exact (Reps.none _ _)); intro v331 w3 ho4 hb hg_ hnew_; clear hg_ hnew_; (first | rw [← Ny330.out] at ho4 | (simp only [Int.reduceToNat] at ho4; rw [← Ny330.out] at ho4)); have n0_ := a_ (Kd.R_lower ho4 (below_size y0_)); have n1_ := a_ (below_step y0_ hb); clear HB; have HO332 := n0_; have HB := n1_; clear n0_ n1_; clear hb ho4))
 go_loopg [5, 6] k (fun kq v5 v6 w' => ∃ (x5_1 : List Int) (x6_1 : Int), v6 = .int .i64 x6_1 ∧ Aside0 (spec_l2Kids.l0 kq l0 a1 x5_1 x6_1 = some r) ∧ Aside0 (kq ≤ k) ∧ Aside0 (Kd.R (Kd.int .i64) 2 w' w.heap.size (fun _ => True) v5 x5_1) ∧ Aside0 (Below w.heap.size w w'))
 case atStart => exact ⟨(y330), (0), y3_, H', ⟨Nat.le_refl _⟩, ⟨by (with_reducible repeat (first | apply Kd.R_alloc | apply Kd.R_drewN | apply Kd.R_drew)); exact HO332.out⟩, ⟨y0_⟩⟩
 case round =>
  clear H'; obtain ⟨x5_1, x6_1, rfl, HA, HK1, HO_5, HB⟩ := hrel; cases gk with
  | zero => exact absurd HA.out (by simp [spec_l2Kids.l0])
  | succ k1 =>
   have H := HA.out; clear HA; simp only [spec_l2Kids.l0] at H; by_cases cx0 : x6_1 < (l0.length : Int); rw [if_pos cx0] at H; have cx0b0 : decide (x6_1 < (l0.length : Int)) = true := decide_eq_true cx0; clear cx0; by_cases cx1 : 0 ≤ x6_1; rw [if_pos cx1] at H; have cx1b0 : decide (0 ≤ x6_1) = true := decide_eq_true cx1; clear cx1; by_cases cx2 : ((rd_T48 l0 x6_1).f1) = a1; rw [if_pos cx2] at H; have cx2b0 : (((rd_T48 l0 x6_1).f1) == a1) = true := beq_iff_eq.mpr cx2; have cx2b1 : (((rd_T48 l0 x6_1).f1) != a1) = false := bne_eq_false_iff_eq.mpr cx2; clear cx2; by_cases cx3 : x5_1.length < 17592186044416; rw [if_pos cx3] at H; have LMcx3 := a_ cx3; clear cx3; obtain ⟨y334, hy_⟩ : ∃ y_ : List Int, y_ = (x5_1 ++ [x6_1]) := ⟨_, rfl⟩; replace H : (spec_l2Kids.l0 k1 l0 a1 y334 (wrap64 (x6_1 + 1))) = some r := z0_; have Ny334 := a_ hy_; clear hy_; have H' := a_ H; clear H; have m0_0 := t_; have m0_1 := t_; rotate_left
   ·rw [if_neg cx3] at H; exact absurd H y100_
   rw [if_neg cx2] at H; have cx2b0 : (((rd_T48 l0 x6_1).f1) == a1) = false := beq_eq_false_iff_ne.mpr cx2; have cx2b1 : (((rd_T48 l0 x6_1).f1) != a1) = true := bne_iff_ne.mpr cx2; have H' := a_ H; clear H; have m0_0 := t_; have m0_2 := t_; rotate_left
   ·rw [if_neg cx1] at H; exact absurd H y100_
   rw [if_neg cx0] at H; have cx0b0 : decide (x6_1 < (l0.length : Int)) = false := decide_eq_false cx0; clear cx0; obtain rfl := Option.some.inj H; have m0_3 := t_; rotate_left
   all_goals (
    first
    | fail_if_success clear m0_0
    |(clear m0_0; have p9922068 : 0 ≤ (x6_1 : Int) := of_decide_eq_true y2_; have q9922068 : x6_1 < (l0.length : Int) := of_decide_eq_true y2_; obtain ⟨ad9922068, A333_2, c333_2, e9922068, hx9922068_0, hx9922068_1, hx9922068_2, hl9922068_2, hi333_2⟩ := at_T48 HR0.out x6_1 p9922068 q9922068; cases e9922068; replace hx9922068_0 := cT_ HB.out hx9922068_0; replace hx9922068_1 := cT_ HB.out hx9922068_1; replace hx9922068_2 := cT_ HB.out hx9922068_2; have HR333_2 := a_ hi333_2; have HC333_2 := a_ hl9922068_2; clear hi333_2 hl9922068_2; replace p9922068 := eq_true p9922068; replace q9922068 := eq_true q9922068)
    first
    | fail_if_success clear m0_1
    |(clear m0_1; go_wp2_with (first | ((with_reducible refine gate_builtin (b := .append) (xs := #[.tmp 21, .tmp 23]) rfl ?_); at_builtin; refine Kd.R_append (Kd.int .i64) (w0 := w) w.heap.size rfl (.tmp 21) (.tmp 23) 34 2 (.int .i64 0) 8 rfl Try.underlying34 info2 rfl y49_ (by omega) u5 x5_1 x6_1 [.int .i64 x6_1] (fun _ => True) (fun _ => False) rfl rfl ?aP (fun _ hk => hk.elim) ?aF ?aO ?aB ?aS ?aL ?_; (case aP => exact rfl); (case aB => exact y0_); (case aF => exact (fun _ _ => trivial)); (case aO => exact y74_); (case aS => exact (below_size y0_)); (case aL => have := LMcx3.out; omega); intro v9997075 w9091474 ho hb hg hat; rw [← Ny334.out] at ho; have n0_ := a_ (hb); have n1_ := a_ (ho); clear HB; clear HO_5; have HB := n0_; have HO9651586 := n1_; clear n0_ n1_; clear ho hb hg hat))
      go_roundg k1
      case measure => have := HK1.out; omega
      case rel => exact ⟨(y334), (wrap64 (x6_1 + 1)), y3_, H', ⟨y48_⟩, ⟨by (with_reducible repeat (first | apply Kd.R_alloc | apply Kd.R_drewN | apply Kd.R_drew)); exact HO9651586.out⟩, ⟨y0_⟩⟩)
    first
    | fail_if_success clear m0_2
    |(clear m0_2; go_wp2
      go_roundg k1
      case measure => have := HK1.out; omega
      case rel => exact ⟨(x5_1), (wrap64 (x6_1 + 1)), y3_, H', ⟨y48_⟩, ⟨y74_⟩, ⟨y0_⟩⟩)
    first
    | fail_if_success clear m0_3
    |(clear m0_3; go_wp2
      go_ret
      exact ⟨_, y4_, y74_, y0_⟩))

/-! ### spec_KidsOf: function 14 -/
def spec_KidsOf.f (k : Nat) (l0 : List (S48)) (a1 : Int) : Option (Int × List Int) := (spec_l2Fault.f k l0).bind fun t338 => (if t338 = 0 then ((spec_l1In.f a1 0 (wrap64 ((l0.length : Int) - 1))).bind fun t339 => (if t339 = true then ((spec_l2Kids.f k l0 a1).bind fun t340 => (some (0, t340))) else (some (3, ([] : List Int))))) else (some (t338, ([] : List Int))))
theorem spec_KidsOf.mono : ∀ a0 a1 k, LeO (spec_KidsOf.f k a0 a1) (spec_KidsOf.f (k + 1) a0 a1) := by
  intro a0 a1 k
  unfold spec_KidsOf.f
  repeat' (with_reducible first | exact spec_l2Fault.mono _ _ | exact spec_l2Kids.mono _ _ _ | exact LeO.refl _ | exact LeO.none _ | refine LeO.ite ?_ ?_ | refine LeO.bind ?_ (fun _ => ?_))
set_option maxHeartbeats 8000000 in
set_option maxRecDepth 100000 in
theorem spec_KidsOf.calls (k : Nat) (A0 : Option Addr) (c0 : Nat) (l0 : List (S48)) (a1 : Int) (r1 : Int) (r2 : List Int) (w : World) (hr0 : Kd.C k48 w A0 l0.length l0) (hc0 : l0.length ≤ c0) (h : spec_KidsOf.f k l0 a1 = some (r1, r2)) :
    Calls Try.prog 14 #[.slice A0 l0.length c0, .int .i64 a1] w fun e w' => ∃ v1_ : Value, e = .returned (.agg #[.int .i64 r1, v1_]) ∧ Kd.R (Kd.int .i64) 2 w' w.heap.size (fun _ => True) v1_ r2 ∧ Below w.heap.size w w' := by
 have hu36 := Try.underlying36; have HR0 := a_ hr0; have HC0 := a_ hc0; clear hr0 hc0; have HB := a_ (Below.refl w.heap.size w); have H : ((spec_l2Fault.f k l0).bind fun t338 => (if t338 = 0 then ((spec_l1In.f a1 0 (wrap64 ((l0.length : Int) - 1))).bind fun t339 => (if t339 = true then ((spec_l2Kids.f k l0 a1).bind fun t340 => (some (0, t340))) else (some (3, ([] : List Int))))) else (some (t338, ([] : List Int))))) = some (r1, r2) := h; clear h; replace H := Option.bind_eq_some_iff.mp H; obtain ⟨tx0, Ay0, H⟩ := H; have Ax0 := a_ Ay0; clear Ay0; by_cases cx1 : tx0 = 0; rw [if_pos cx1] at H; have cx1b0 : (tx0 == 0) = true := beq_iff_eq.mpr cx1; have cx1b1 : (tx0 != 0) = false := bne_eq_false_iff_eq.mpr cx1; clear cx1; replace H := Option.bind_eq_some_iff.mp H; obtain ⟨tx2, Ay2, H⟩ := H; have Ax2 := a_ Ay2; clear Ay2; by_cases cx3 : tx2 = true; subst cx3; rw [if_pos rfl] at H; replace H := Option.bind_eq_some_iff.mp H; obtain ⟨tx4, Ay4, H⟩ := H; have Ax4 := a_ Ay4; clear Ay4; simp only [Option.some.injEq, Prod.mk.injEq] at H; obtain ⟨rfl, rfl⟩ := H; have m0_0 := t_; have m0_1 := t_; have m0_4 := t_; rotate_left; replace cx3 := Bool.eq_false_iff.mpr cx3; subst cx3; rw [if_neg (show ¬ (false = true) by decide)] at H; simp only [Option.some.injEq, Prod.mk.injEq] at H; obtain ⟨rfl, rfl⟩ := H; have m0_0 := t_; have m0_2 := t_; have m0_5 := t_; have m0_7 := t_; rotate_left; rw [if_neg cx1] at H; have cx1b0 : (tx0 == 0) = false := beq_eq_false_iff_ne.mpr cx1; have cx1b1 : (tx0 != 0) = true := bne_iff_ne.mpr cx1; simp only [Option.some.injEq, Prod.mk.injEq] at H; obtain ⟨rfl, rfl⟩ := H; have m0_3 := t_; have m0_6 := t_; have m0_7 := t_; rotate_left
 all_goals (
  go_enter Try.func14, Try.ntmps14
  go_wp2_with (first | ((with_reducible refine gate_dst (N := 4) rfl ?_); refine box_event zr_ (N := 4) zr_ (cs := #[.int .i64 0, .slice none 0 0]) (t := 36) zs_ ?_; intro gb9431567 hg w9669576 hbox hb; have n0_ := a_ (below_step y0_ hb); have n1_ := a_ (hbox); have n2_ := a_ ((by rw [hg]; exact (below_size y0_) : w.heap.size ≤ gb9431567)); have n3_ := a_ ((by rw [hg]; exact (below_size y0_) : w.heap.size ≤ gb9431567)); clear HB; have HB := n0_; have BK9431567 := n1_; have GW9431567 := n2_; have GE9431567 := n3_; clear n0_ n1_ n2_ n3_; clear hb hbox hg) | (have mkq_ := m0_0; clear mkq_; (with_reducible refine gate_callee (f := 21) rfl ?_); refine gc_ 21 7 Try.func21 #[.slice A0 l0.length c0] ?_; (with_reducible refine (spec_l2Fault.calls k _ _ l0 tx0 _ ?side1 ?side2 Ax0.out).mono ?_); (case side1 => repeat (first | exact (Kd.C_below HR0.out HB.out) | (with_reducible refine Kd.C_alloc ?_ _) | (with_reducible refine Kd.C_drewN ?_ _) | (with_reducible refine Kd.C_drew ?_))); (case side2 => exact HC0.out); rintro e w' ⟨rfl, ⟨nd, rfl⟩⟩; refine ⟨_, rfl, ?_⟩; (try (rw [drewN_self w9669576]; generalize hq_ : World.drewN w9669576 _ = w9669576; have n0_ : Aside0 (w9669576.heap[gb9431567]? = some (.cells #[.int .i64 0, .slice none 0 0] 36 (0, 0))) := ⟨by rw [← hq_]; exact y24_⟩; have n1_ : Aside0 (Below w.heap.size w w9669576) := ⟨by rw [← hq_]; exact y11_⟩; clear BK9431567 HB hq_; have BK9431567 := n0_; have HB := n1_; clear n0_ n1_))) | (have mkq_ := m0_1; clear mkq_; (with_reducible refine gate_callee (f := 31) rfl ?_); refine gc_ 31 16 Try.func31 #[.int .i64 a1, .int .i64 0, .int .i64 (wrap64 ((l0.length : Int) - 1))] ?_; (with_reducible refine (spec_l1In.calls a1 0 (wrap64 ((l0.length : Int) - 1)) _ _ Ax2.out).mono ?_); rintro e w' ⟨rfl, ⟨nd, rfl⟩⟩; refine ⟨_, rfl, ?_⟩; (try (rw [drewN_self w9669576]; generalize hq_ : World.drewN w9669576 _ = w9669576; have n0_ : Aside0 (w9669576.heap[gb9431567]? = some (.cells #[.int .i64 0, .slice none 0 0] 36 (0, 0))) := ⟨by rw [← hq_]; exact y24_⟩; have n1_ : Aside0 (Below w.heap.size w w9669576) := ⟨by rw [← hq_]; exact y11_⟩; clear BK9431567 HB hq_; have BK9431567 := n0_; have HB := n1_; clear n0_ n1_))) | ((with_reducible refine gate_callee (f := 35) rfl ?_); refine gc_ 35 21 Try.func35 #[.slice A0 l0.length c0, .int .i64 a1] ?_; (with_reducible refine (spec_l2Kids.calls k _ _ l0 a1 tx4 _ ?side1 ?side2 Ax4.out).mono ?_); (case side1 => repeat (first | exact (Kd.C_below HR0.out HB.out) | (with_reducible refine Kd.C_alloc ?_ _) | (with_reducible refine Kd.C_drewN ?_ _) | (with_reducible refine Kd.C_drew ?_))); (case side2 => exact HC0.out); rintro e w9284009 ⟨v9339366, rfl, ho0, hb⟩; refine ⟨_, rfl, ?_⟩; have n0_ := a_ (Kd.R_lower ho0 (below_size y11_)); have n1_ := a_ (blk_below (g := gb9431567) (o := .cells #[.int .i64 0, .slice none 0 0] 36 (0, 0)) y24_ hb); have n2_ := a_ (below_step y11_ hb); clear BK9431567; clear HB; have HO9745766 := n0_; have BK9431567 := n1_; have HB := n2_; clear n0_ n1_ n2_; (try clear hb); (try clear hb9269133); (try clear hk); (try clear hi); (try clear ho0); obtain ⟨Ao9245558, co9245558, eo9245558⟩ := Kd.R_slice HO9745766.out; subst eo9245558; have hcz9277358_0 : w9284009.cell? ⟨gb9431567, 0, none⟩ = some (.int .i64 0) := (blk_cell BK9431567.out 0).trans rfl; have hcz9277358_1 : w9284009.cell? ⟨gb9431567, 1, none⟩ = some (.slice none 0 0) := (blk_cell BK9431567.out 1).trans rfl; have hfz9277358_0 := blk_frozen BK9431567.out 0; have hfz9277358_1 := blk_frozen BK9431567.out 1) | (have mkq_ := m0_2; clear mkq_; (with_reducible refine gate_callee (f := 31) rfl ?_); refine gc_ 31 16 Try.func31 #[.int .i64 a1, .int .i64 0, .int .i64 (wrap64 ((l0.length : Int) - 1))] ?_; (with_reducible refine (spec_l1In.calls a1 0 (wrap64 ((l0.length : Int) - 1)) _ _ Ax2.out).mono ?_); rintro e w' ⟨rfl, ⟨nd, rfl⟩⟩; refine ⟨_, rfl, ?_⟩; (try (rw [drewN_self w9669576]; generalize hq_ : World.drewN w9669576 _ = w9669576; have n0_ : Aside0 (w9669576.heap[gb9431567]? = some (.cells #[.int .i64 0, .slice none 0 0] 36 (0, 0))) := ⟨by rw [← hq_]; exact y24_⟩; have n1_ : Aside0 (Below w.heap.size w w9669576) := ⟨by rw [← hq_]; exact y11_⟩; clear BK9431567 HB hq_; have BK9431567 := n0_; have HB := n1_; clear n0_ n1_)); have hcz9499712_0 : w9669576.cell? ⟨gb9431567, 0, none⟩ = some (.int .i64 0) := (blk_cell BK9431567.out 0).trans rfl; have hcz9499712_1 : w9669576.cell? ⟨gb9431567, 1, none⟩ = some (.slice none 0 0) := (blk_cell BK9431567.out 1).trans rfl; have hfz9499712_0 := blk_frozen BK9431567.out 0; have hfz9499712_1 := blk_frozen BK9431567.out 1) | (have mkq_ := m0_3; clear mkq_; (with_reducible refine gate_callee (f := 21) rfl ?_); refine gc_ 21 7 Try.func21 #[.slice A0 l0.length c0] ?_; (with_reducible refine (spec_l2Fault.calls k _ _ l0 tx0 _ ?side1 ?side2 Ax0.out).mono ?_); (case side1 => repeat (first | exact (Kd.C_below HR0.out HB.out) | (with_reducible refine Kd.C_alloc ?_ _) | (with_reducible refine Kd.C_drewN ?_ _) | (with_reducible refine Kd.C_drew ?_))); (case side2 => exact HC0.out); rintro e w' ⟨rfl, ⟨nd, rfl⟩⟩; refine ⟨_, rfl, ?_⟩; (try (rw [drewN_self w9669576]; generalize hq_ : World.drewN w9669576 _ = w9669576; have n0_ : Aside0 (w9669576.heap[gb9431567]? = some (.cells #[.int .i64 0, .slice none 0 0] 36 (0, 0))) := ⟨by rw [← hq_]; exact y24_⟩; have n1_ : Aside0 (Below w.heap.size w w9669576) := ⟨by rw [← hq_]; exact y11_⟩; clear BK9431567 HB hq_; have BK9431567 := n0_; have HB := n1_; clear n0_ n1_)); have hcz9499712_0 : w9669576.cell? ⟨gb9431567, 0, none⟩ = some (.int .i64 0) := (blk_cell BK9431567.out 0).trans rfl; have hcz9499712_1 : w9669576.cell? ⟨gb9431567, 1, none⟩ = some (.slice none 0 0) := (blk_cell BK9431567.out 1).trans rfl; have hfz9499712_0 := blk_frozen BK9431567.out 0; have hfz9499712_1 := blk_frozen BK9431567.out 1))
  first
  | fail_if_success clear m0_4
  |(clear m0_4; refine bodyPost_ret (results_cell_row rfl _ _ gb9431567 36 #[.int .i64 0, .slice Ao9245558 tx4.length co9245558] (0, 0) _ rfl y68_ Try.underlying36 rfl y35_) rfl ?_; exact ⟨_, y4_, by (with_reducible repeat (first | apply Kd.R_alloc | apply Kd.R_drewN | apply Kd.R_drew)); exact Kd.R_mono (Kd.R_far (p := ⟨gb9431567, 1, none⟩) (Kd.R_far (p := ⟨gb9431567, 0, none⟩) (Kd.R_types HO9745766.out BK9431567.out y49_) (fun _ hk => hk.2) (.int .i64 0)) (fun _ hk => hk.2) (.slice Ao9245558 tx4.length co9245558)) (fun _ hk => trivial), y11_⟩)
  first
  | fail_if_success clear m0_5
  |(clear m0_5; refine bodyPost_ret (results_cell_row rfl _ _ gb9431567 36 #[.int .i64 3, .slice none 0 0] (0, 0) _ rfl (by (with_reducible repeat (first | refine blk_drewN ?_ _ | refine blk_drew ?_ | refine blk_alloc ?_ _)); refine blk_put (cs := #[.int .i64 3, .slice none 0 0]) ?_ 1 _ rfl; (with_reducible repeat (first | refine blk_drewN ?_ _ | refine blk_drew ?_ | refine blk_alloc ?_ _)); refine blk_put (cs := #[.int .i64 0, .slice none 0 0]) ?_ 0 _ rfl; (with_reducible repeat (first | refine blk_drewN ?_ _ | refine blk_drew ?_ | refine blk_alloc ?_ _)); exact BK9431567.out) Try.underlying36 rfl y35_) rfl ?_)
  first
  | fail_if_success clear m0_6
  |(clear m0_6; refine bodyPost_ret (results_cell_row rfl _ _ gb9431567 36 #[.int .i64 tx0, .slice none 0 0] (0, 0) _ rfl (by (with_reducible repeat (first | refine blk_drewN ?_ _ | refine blk_drew ?_ | refine blk_alloc ?_ _)); refine blk_put (cs := #[.int .i64 tx0, .slice none 0 0]) ?_ 1 _ rfl; (with_reducible repeat (first | refine blk_drewN ?_ _ | refine blk_drew ?_ | refine blk_alloc ?_ _)); refine blk_put (cs := #[.int .i64 0, .slice none 0 0]) ?_ 0 _ rfl; (with_reducible repeat (first | refine blk_drewN ?_ _ | refine blk_drew ?_ | refine blk_alloc ?_ _)); exact BK9431567.out) Try.underlying36 rfl y35_) rfl ?_)
  first
  | fail_if_success clear m0_7
  |(clear m0_7; exact ⟨_, y4_, y72_, y11_⟩))

/-! ### impl_kidsOf: function 36 -/
def impl_kidsOf.l0 : Nat → Int → List Int → List (S48) → Int → Int → Option (List Int)
  | 0, _, _, _, _, _ => none
  | k + 1, x1, x5, x9, x10, x11 => if x11 < x10 then (if 0 ≤ x11 then (if x11 < (x9.length : Int) then (if ((rd_T48 x9 x11).f1) = x1 then (if x11 > 0 then (if x5.length < 17592186044416 then (impl_kidsOf.l0 k x1 (x5 ++ [x11]) x9 x10 (wrap64 (x11 + 1))) else (none)) else (impl_kidsOf.l0 k x1 x5 x9 x10 (wrap64 (x11 + 1)))) else (impl_kidsOf.l0 k x1 x5 x9 x10 (wrap64 (x11 + 1)))) else (none)) else (none)) else (some x5)
def impl_kidsOf.f (k : Nat) (l0 : List (S48)) (a1 : Int) : Option (List Int) := impl_kidsOf.l0 k a1 (([] : List Int)) l0 (l0.length : Int) 0
theorem impl_kidsOf.mono_l : ∀ k, (∀ y0 y1 y2 y3 y4, LeO (impl_kidsOf.l0 k y0 y1 y2 y3 y4) (impl_kidsOf.l0 (k + 1) y0 y1 y2 y3 y4))
  | 0 => fun _ _ _ _ _ r h => by simp [impl_kidsOf.l0] at h
  | k + 1 => by
    have ih0 := impl_kidsOf.mono_l k
    · intro y0 y1 y2 y3 y4
      unfold impl_kidsOf.l0
      repeat' (with_reducible first | exact ih0 _ _ _ _ _ | exact LeO.refl _ | exact LeO.none _ | refine LeO.ite ?_ ?_ | refine LeO.bind ?_ (fun _ => ?_))
theorem impl_kidsOf.mono : ∀ a0 a1 k, LeO (impl_kidsOf.f k a0 a1) (impl_kidsOf.f (k + 1) a0 a1) := by
  intro a0 a1 k
  have ih0 := impl_kidsOf.mono_l k
  unfold impl_kidsOf.f
  repeat' (with_reducible first | exact ih0 _ _ _ _ _ | exact LeO.refl _ | exact LeO.none _ | refine LeO.ite ?_ ?_ | refine LeO.bind ?_ (fun _ => ?_))
set_option maxHeartbeats 8000000 in
set_option maxRecDepth 100000 in
theorem impl_kidsOf.calls (k : Nat) (A0 : Option Addr) (c0 : Nat) (l0 : List (S48)) (a1 : Int) (r : List Int) (w : World) (hr0 : Kd.C k48 w A0 l0.length l0) (hc0 : l0.length ≤ c0) (h : impl_kidsOf.f k l0 a1 = some r) :
    Calls Try.prog 36 #[.slice A0 l0.length c0, .int .i64 a1] w fun e w' => ∃ v0_ : Value, e = .returned (v0_) ∧ Kd.R (Kd.int .i64) 2 w' w.heap.size (fun _ => True) v0_ r ∧ Below w.heap.size w w' := by
 have hu48 := Try.underlying48; have HR0 := a_ hr0; have HC0 := a_ hc0; clear hr0 hc0; have HB := a_ (Below.refl w.heap.size w); have H : (impl_kidsOf.l0 k a1 (([] : List Int)) l0 (l0.length : Int) 0) = some r := h; clear h; obtain ⟨y343, hy_⟩ : ∃ y_ : List Int, y_ = (([] : List Int)) := ⟨_, rfl⟩; replace H : (impl_kidsOf.l0 k a1 y343 l0 (l0.length : Int) 0) = some r := z0_; have Ny343 := a_ hy_; clear hy_; have H' := a_ H; clear H; go_enter Try.func36, Try.ntmps36
 go_wp2_with (first | ((with_reducible refine gate_dst (N := 8) rfl ?_); refine Kd.R_lit (Kd.int .i64) _ 2 ?hg (N := 8) ?hd (xs := ([] : List Int)) (inner := []) (ok := fun _ => True) (okp := fun _ => True) ?hr ?hp (fun _ hk => hk) trivial (Below.refl _ _) (Nat.le_refl _) y100_ ?_; (case hd => rfl); (case hg => rfl); (case hr => first | (go_simp; done) | (go_simp; rfl)); (case hp => exact (Reps.none _ _)); intro v344 w3 ho4 hb hg_ hnew_; clear hg_ hnew_; (first | rw [← Ny343.out] at ho4 | (simp only [Int.reduceToNat] at ho4; rw [← Ny343.out] at ho4)); have n0_ := a_ (Kd.R_lower ho4 (below_size y0_)); have n1_ := a_ (below_step y0_ hb); clear HB; have HO345 := n0_; have HB := n1_; clear n0_ n1_; clear hb ho4))
 go_loopg [5, 11] k (fun kq v5 v11 w' => ∃ (x5_1 : List Int) (x11_1 : Int), v11 = .int .i64 x11_1 ∧ Aside0 (impl_kidsOf.l0 kq a1 x5_1 l0 (l0.length : Int) x11_1 = some r) ∧ Aside0 (kq ≤ k) ∧ Aside0 (Kd.R (Kd.int .i64) 2 w' w.heap.size (fun _ => True) v5 x5_1) ∧ Aside0 (Below w.heap.size w w'))
 case atStart => exact ⟨(y343), (0), y3_, H', ⟨Nat.le_refl _⟩, ⟨by (with_reducible repeat (first | apply Kd.R_alloc | apply Kd.R_drewN | apply Kd.R_drew)); exact HO345.out⟩, ⟨y0_⟩⟩
 case round =>
  clear H'; obtain ⟨x5_1, x11_1, rfl, HA, HK1, HO_5, HB⟩ := hrel; cases gk with
  | zero => exact absurd HA.out (by simp [impl_kidsOf.l0])
  | succ k1 =>
   have H := HA.out; clear HA; simp only [impl_kidsOf.l0] at H; by_cases cx0 : x11_1 < (l0.length : Int); rw [if_pos cx0] at H; have cx0b0 : decide (x11_1 < (l0.length : Int)) = true := decide_eq_true cx0; clear cx0; by_cases cx1 : 0 ≤ x11_1; rw [if_pos cx1] at H; have cx1b0 : decide (0 ≤ x11_1) = true := decide_eq_true cx1; clear cx1; by_cases cx2 : x11_1 < (l0.length : Int); rw [if_pos cx2] at H; have cx2b0 : decide (x11_1 < (l0.length : Int)) = true := decide_eq_true cx2; clear cx2; by_cases cx3 : ((rd_T48 l0 x11_1).f1) = a1; rw [if_pos cx3] at H; have cx3b0 : (((rd_T48 l0 x11_1).f1) == a1) = true := beq_iff_eq.mpr cx3; have cx3b1 : (((rd_T48 l0 x11_1).f1) != a1) = false := bne_eq_false_iff_eq.mpr cx3; clear cx3; by_cases cx4 : x11_1 > 0; rw [if_pos cx4] at H; have cx4b0 : decide (0 < x11_1) = true := decide_eq_true cx4; clear cx4; by_cases cx5 : x5_1.length < 17592186044416; rw [if_pos cx5] at H; have LMcx5 := a_ cx5; clear cx5; obtain ⟨y348, hy_⟩ : ∃ y_ : List Int, y_ = (x5_1 ++ [x11_1]) := ⟨_, rfl⟩; replace H : (impl_kidsOf.l0 k1 a1 y348 l0 (l0.length : Int) (wrap64 (x11_1 + 1))) = some r := z0_; have Ny348 := a_ hy_; clear hy_; have H' := a_ H; clear H; have m0_0 := t_; have m0_1 := t_; rotate_left
   ·rw [if_neg cx5] at H; exact absurd H y100_
   rw [if_neg cx4] at H; have cx4b0 : decide (0 < x11_1) = false := decide_eq_false cx4; clear cx4; have H' := a_ H; clear H; have m0_0 := t_; have m0_2 := t_; rotate_left; rw [if_neg cx3] at H; have cx3b0 : (((rd_T48 l0 x11_1).f1) == a1) = false := beq_eq_false_iff_ne.mpr cx3; have cx3b1 : (((rd_T48 l0 x11_1).f1) != a1) = true := bne_iff_ne.mpr cx3; have H' := a_ H; clear H; have m0_0 := t_; have m0_2 := t_; rotate_left
   ·rw [if_neg cx2] at H; exact absurd H y100_
   ·rw [if_neg cx1] at H; exact absurd H y100_
   rw [if_neg cx0] at H; have cx0b0 : decide (x11_1 < (l0.length : Int)) = false := decide_eq_false cx0; clear cx0; obtain rfl := Option.some.inj H; have m0_3 := t_; rotate_left
   all_goals (
    first
    | fail_if_success clear m0_0
    |(clear m0_0; have p9922068 : 0 ≤ (x11_1 : Int) := of_decide_eq_true y2_; have q9922068 : x11_1 < (l0.length : Int) := of_decide_eq_true y2_; obtain ⟨ad9922068, A346_2, c346_2, e9922068, hx9922068_0, hx9922068_1, hx9922068_2, hl9922068_2, hi346_2⟩ := at_T48 HR0.out x11_1 p9922068 q9922068; cases e9922068; replace hx9922068_0 := cT_ HB.out hx9922068_0; replace hx9922068_1 := cT_ HB.out hx9922068_1; replace hx9922068_2 := cT_ HB.out hx9922068_2; have HR346_2 := a_ hi346_2; have HC346_2 := a_ hl9922068_2; clear hi346_2 hl9922068_2; replace p9922068 := eq_true p9922068; replace q9922068 := eq_true q9922068
      go_wp2_with (first | ((with_reducible refine gate_dst (N := 7) rfl ?_); refine box_event zr_ (N := 7) zr_ (cs := #[.string (⟨#[]⟩ : ByteArray), .int .i64 0, .slice none 0 0]) (t := 48) zs_ ?_; intro gb9404942 hg w9816884 hbox hb; have n0_ := a_ (Kd.R_below y74_ hb); have n1_ := a_ (below_step y0_ hb); have n2_ := a_ (hbox); have n3_ := a_ ((by rw [hg]; exact (below_size y0_) : w.heap.size ≤ gb9404942)); have n4_ := a_ ((by rw [hg]; exact (below_size y0_) : w.heap.size ≤ gb9404942)); clear HO_5; clear HB; have HO_5 := n0_; have HB := n1_; have BK9404942 := n2_; have GW9404942 := n3_; have GE9404942 := n4_; clear n0_ n1_ n2_ n3_ n4_; clear hb hbox hg; have hcz9451137_0 : w9816884.cell? ⟨gb9404942, 0, none⟩ = some (.string (⟨#[]⟩ : ByteArray)) := (blk_cell BK9404942.out 0).trans rfl; have hcz9451137_1 : w9816884.cell? ⟨gb9404942, 1, none⟩ = some (.int .i64 0) := (blk_cell BK9404942.out 1).trans rfl; have hcz9451137_2 : w9816884.cell? ⟨gb9404942, 2, none⟩ = some (.slice none 0 0) := (blk_cell BK9404942.out 2).trans rfl; have hfz9451137_0 := blk_frozen BK9404942.out 0; have hfz9451137_1 := blk_frozen BK9404942.out 1; have hfz9451137_2 := blk_frozen BK9404942.out 2) | ((with_reducible refine gate_builtin (b := .append) (xs := #[.tmp 24, .tmp 26]) rfl ?_); at_builtin; refine Kd.R_append (Kd.int .i64) (w0 := w) w.heap.size rfl (.tmp 24) (.tmp 26) 34 2 (.int .i64 0) 8 rfl Try.underlying34 info2 rfl y49_ (by omega) u5 x5_1 x11_1 [.int .i64 x11_1] (fun _ => True) (fun _ => False) rfl (by first | (go_simp; done) | (go_simp; rfl)) ?aP (fun _ hk => hk.elim) ?aF ?aO ?aB ?aS ?aL ?_; (case aP => exact rfl); (case aB => exact y60_); (case aF => exact (fun _ _ => trivial)); (case aO => exact y65_); (case aS => exact (below_size y60_)); (case aL => have := LMcx5.out; omega); intro v9076735 w9118609 ho hb hg hat; rw [← Ny348.out] at ho; have n0_ := a_ (blk_grown (g := gb9404942) (o := .cells #[.string ((rd_T48 l0 x11_1).f0), .int .i64 ((rd_T48 l0 x11_1).f1), .slice A346_2 ((rd_T48 l0 x11_1).f2).length c346_2] 48 (0, 0)) (by (with_reducible repeat (first | refine blk_drewN ?_ _ | refine blk_drew ?_ | refine blk_alloc ?_ _)); refine blk_put (cs := #[.string ((rd_T48 l0 x11_1).f0), .int .i64 ((rd_T48 l0 x11_1).f1), .slice none 0 0]) ?_ 2 _ rfl; (with_reducible repeat (first | refine blk_drewN ?_ _ | refine blk_drew ?_ | refine blk_alloc ?_ _)); refine blk_put (cs := #[.string ((rd_T48 l0 x11_1).f0), .int .i64 0, .slice none 0 0]) ?_ 1 _ rfl; (with_reducible repeat (first | refine blk_drewN ?_ _ | refine blk_drew ?_ | refine blk_alloc ?_ _)); refine blk_put (cs := #[.string (⟨#[]⟩ : ByteArray), .int .i64 0, .slice none 0 0]) ?_ 0 _ rfl; (with_reducible repeat (first | refine blk_drewN ?_ _ | refine blk_drew ?_ | refine blk_alloc ?_ _)); exact BK9404942.out) hg (Kd.R_ne HO_5.out BK9404942.out y49_)); have n1_ := a_ (hb); have n2_ := a_ (ho); clear BK9404942; clear HB; clear HO_5; have BK9404942 := n0_; have HB := n1_; have HO9707835 := n2_; clear n0_ n1_ n2_; clear ho hb hg hat))
      go_roundg k1
      case measure => have := HK1.out; omega)
    first
    | fail_if_success clear m0_1
    |(clear m0_1
      case rel => exact ⟨(y348), (wrap64 (x11_1 + 1)), y3_, H', ⟨y48_⟩, ⟨by (with_reducible repeat (first | apply Kd.R_alloc | apply Kd.R_drewN | apply Kd.R_drew)); exact HO9707835.out⟩, ⟨y60_⟩⟩)
    first
    | fail_if_success clear m0_2
    |(clear m0_2
      case rel => exact ⟨(x5_1), (wrap64 (x11_1 + 1)), y3_, H', ⟨y48_⟩, ⟨y65_⟩, ⟨y60_⟩⟩)
    first
    | fail_if_success clear m0_3
    |(clear m0_3; go_wp2
      go_ret
      exact ⟨_, y4_, y74_, y0_⟩))

/-! ### impl_KidsOf: function 15 -/
def impl_KidsOf.f (k : Nat) (l0 : List (S48)) (a1 : Int) : Option (Int × List Int) := (impl_TreeFault.f k l0).bind fun t352 => ((impl_isPlace.f a1 (l0.length : Int)).bind fun t353 => ((impl_codeIf.f (!t353) 3).bind fun t354 => ((impl_firstCode.f k (([t352, t354] : List Int))).bind fun t358 => (if t358 = 0 then ((impl_kidsOf.f k l0 a1).bind fun t359 => (some (0, t359))) else (some (t358, ([] : List Int)))))))
theorem impl_KidsOf.mono : ∀ a0 a1 k, LeO (impl_KidsOf.f k a0 a1) (impl_KidsOf.f (k + 1) a0 a1) := by
  intro a0 a1 k
  unfold impl_KidsOf.f
  repeat' (with_reducible first | exact impl_TreeFault.mono _ _ | exact impl_firstCode.mono _ _ | exact impl_kidsOf.mono _ _ _ | exact LeO.refl _ | exact LeO.none _ | refine LeO.ite ?_ ?_ | refine LeO.bind ?_ (fun _ => ?_))
set_option maxHeartbeats 8000000 in
set_option maxRecDepth 100000 in
theorem impl_KidsOf.calls (k : Nat) (A0 : Option Addr) (c0 : Nat) (l0 : List (S48)) (a1 : Int) (r1 : Int) (r2 : List Int) (w : World) (hr0 : Kd.C k48 w A0 l0.length l0) (hc0 : l0.length ≤ c0) (h : impl_KidsOf.f k l0 a1 = some (r1, r2)) :
    Calls Try.prog 15 #[.slice A0 l0.length c0, .int .i64 a1] w fun e w' => ∃ v1_ : Value, e = .returned (.agg #[.int .i64 r1, v1_]) ∧ Kd.R (Kd.int .i64) 2 w' w.heap.size (fun _ => True) v1_ r2 ∧ Below w.heap.size w w' := by
 have hu36 := Try.underlying36; have HR0 := a_ hr0; have HC0 := a_ hc0; clear hr0 hc0; have HB := a_ (Below.refl w.heap.size w); have H : ((impl_TreeFault.f k l0).bind fun t352 => ((impl_isPlace.f a1 (l0.length : Int)).bind fun t353 => ((impl_codeIf.f (!t353) 3).bind fun t354 => ((impl_firstCode.f k (([t352, t354] : List Int))).bind fun t358 => (if t358 = 0 then ((impl_kidsOf.f k l0 a1).bind fun t359 => (some (0, t359))) else (some (t358, ([] : List Int)))))))) = some (r1, r2) := h; clear h; replace H := Option.bind_eq_some_iff.mp H; obtain ⟨tx0, Ay0, H⟩ := H; have Ax0 := a_ Ay0; clear Ay0; replace H := Option.bind_eq_some_iff.mp H; obtain ⟨tx1, Ay1, H⟩ := H; have Ax1 := a_ Ay1; clear Ay1; replace H := Option.bind_eq_some_iff.mp H; obtain ⟨tx2, Ay2, H⟩ := H; have Ax2 := a_ Ay2; clear Ay2; obtain ⟨y355, hy_⟩ : ∃ y_ : List Int, y_ = (([tx0, tx2] : List Int)) := ⟨_, rfl⟩; replace H : ((impl_firstCode.f k y355).bind fun t358 => (if t358 = 0 then ((impl_kidsOf.f k l0 a1).bind fun t359 => (some (0, t359))) else (some (t358, ([] : List Int))))) = some (r1, r2) := z0_; have Ny355 := a_ hy_; clear hy_; replace H := Option.bind_eq_some_iff.mp H; obtain ⟨tx3, Ay3, H⟩ := H; have Ax3 := a_ Ay3; clear Ay3; by_cases cx4 : tx3 = 0; rw [if_pos cx4] at H; have cx4b0 : (tx3 == 0) = true := beq_iff_eq.mpr cx4; have cx4b1 : (tx3 != 0) = false := bne_eq_false_iff_eq.mpr cx4; clear cx4; replace H := Option.bind_eq_some_iff.mp H; obtain ⟨tx5, Ay5, H⟩ := H; have Ax5 := a_ Ay5; clear Ay5; simp only [Option.some.injEq, Prod.mk.injEq] at H; obtain ⟨rfl, rfl⟩ := H; have m0_0 := t_; have m0_2 := t_; rotate_left; rw [if_neg cx4] at H; have cx4b0 : (tx3 == 0) = false := beq_eq_false_iff_ne.mpr cx4; have cx4b1 : (tx3 != 0) = true := bne_iff_ne.mpr cx4; simp only [Option.some.injEq, Prod.mk.injEq] at H; obtain ⟨rfl, rfl⟩ := H; have m0_1 := t_; have m0_3 := t_; rotate_left
 all_goals (
  go_enter Try.func15, Try.ntmps15
  go_wp2_with (first | ((with_reducible refine gate_dst (N := 4) rfl ?_); refine box_event zr_ (N := 4) zr_ (cs := #[.int .i64 0, .slice none 0 0]) (t := 36) zs_ ?_; intro gb9431567 hg w9669576 hbox hb; have n0_ := a_ (below_step y0_ hb); have n1_ := a_ (hbox); have n2_ := a_ ((by rw [hg]; exact (below_size y0_) : w.heap.size ≤ gb9431567)); have n3_ := a_ ((by rw [hg]; exact (below_size y0_) : w.heap.size ≤ gb9431567)); clear HB; have HB := n0_; have BK9431567 := n1_; have GW9431567 := n2_; have GE9431567 := n3_; clear n0_ n1_ n2_ n3_; clear hb hbox hg) | ((with_reducible refine gate_callee (f := 9) rfl ?_); refine gc_ 9 7 Try.func9 #[.slice A0 l0.length c0] ?_; (with_reducible refine (impl_TreeFault.calls k _ _ l0 tx0 _ ?side1 ?side2 Ax0.out).mono ?_); (case side1 => repeat (first | exact (Kd.C_below HR0.out HB.out) | (with_reducible refine Kd.C_alloc ?_ _) | (with_reducible refine Kd.C_drewN ?_ _) | (with_reducible refine Kd.C_drew ?_))); (case side2 => exact HC0.out); rintro e w9369754 ⟨rfl, hb⟩; refine ⟨_, rfl, ?_⟩; have n0_ := a_ (blk_below (g := gb9431567) (o := .cells #[.int .i64 0, .slice none 0 0] 36 (0, 0)) y24_ hb); have n1_ := a_ (below_step y11_ hb); clear BK9431567; clear HB; have BK9431567 := n0_; have HB := n1_; clear n0_ n1_; (try clear hb); (try clear hb9496414); (try clear hk); (try clear hi)) | ((with_reducible refine gate_callee (f := 33) rfl ?_); refine gc_ 33 11 Try.func33 #[.int .i64 a1, .int .i64 (l0.length : Int)] ?_; (with_reducible refine (impl_isPlace.calls a1 (l0.length : Int) tx1 _ Ax1.out).mono ?_); rintro e w' ⟨rfl, ⟨nd, rfl⟩⟩; refine ⟨_, rfl, ?_⟩; (try (rw [drewN_self w9369754]; generalize hq_ : World.drewN w9369754 _ = w9369754; have n0_ : Aside0 (w9369754.heap[gb9431567]? = some (.cells #[.int .i64 0, .slice none 0 0] 36 (0, 0))) := ⟨by rw [← hq_]; exact y24_⟩; have n1_ : Aside0 (Below w.heap.size w w9369754) := ⟨by rw [← hq_]; exact y11_⟩; clear BK9431567 HB hq_; have BK9431567 := n0_; have HB := n1_; clear n0_ n1_))) | ((with_reducible refine gate_callee (f := 27) rfl ?_); refine gc_ 27 13 Try.func27 #[.bool (!tx1), .int .i64 3] ?_; (with_reducible refine (impl_codeIf.calls (!tx1) 3 tx2 _ Ax2.out).mono ?_); rintro e w' ⟨rfl, ⟨nd, rfl⟩⟩; refine ⟨_, rfl, ?_⟩; (try (rw [drewN_self w9369754]; generalize hq_ : World.drewN w9369754 _ = w9369754; have n0_ : Aside0 (w9369754.heap[gb9431567]? = some (.cells #[.int .i64 0, .slice none 0 0] 36 (0, 0))) := ⟨by rw [← hq_]; exact y24_⟩; have n1_ : Aside0 (Below w.heap.size w w9369754) := ⟨by rw [← hq_]; exact y11_⟩; clear BK9431567 HB hq_; have BK9431567 := n0_; have HB := n1_; clear n0_ n1_))) | ((with_reducible refine gate_dst (N := 14) rfl ?_); refine Kd.R_lit (Kd.int .i64) _ 2 ?hg (N := 14) ?hd (xs := ([tx0, tx2] : List Int)) (inner := [.int .i64 tx0, .int .i64 tx2]) (ok := fun _ => True) (okp := fun _ => True) ?hr ?hp (fun _ hk => hk) trivial (Below.refl _ _) (Nat.le_refl _) y100_ ?_; (case hd => rfl); (case hg => rfl); (case hr => first | (go_simp; done) | (go_simp; rfl)); (case hp => exact (Reps.one (show Kd.M (Kd.int .i64) _ _ _ tx0 [.int .i64 tx0] from rfl) (Reps.one (show Kd.M (Kd.int .i64) _ _ _ tx2 [.int .i64 tx2] from rfl) (Reps.none _ _)))); intro v9123900 w9617141 ho9839185 hb hg_ hnew_; clear hg_ hnew_; (first | rw [← Ny355.out] at ho9839185 | (simp only [Int.reduceToNat] at ho9839185; rw [← Ny355.out] at ho9839185)); have n0_ := a_ (Kd.R_lower ho9839185 (below_size y11_)); have n1_ := a_ (blk_below (g := gb9431567) (o := .cells #[.int .i64 0, .slice none 0 0] 36 (0, 0)) y24_ hb); have n2_ := a_ (below_step y11_ hb); clear BK9431567; clear HB; have HO9745766 := n0_; have BK9431567 := n1_; have HB := n2_; clear n0_ n1_ n2_; clear hb ho9839185; obtain ⟨Ao9718679, co9718679, eo9718679⟩ := Kd.R_slice HO9745766.out; subst eo9718679) | (have mkq_ := m0_0; clear mkq_; (with_reducible refine gate_callee (f := 24) rfl ?_); refine gc_ 24 15 Try.func24 #[.slice Ao9718679 y355.length co9718679] ?_; (with_reducible refine (impl_firstCode.calls k _ _ y355 tx3 _ ?side1 ?side2 Ax3.out).mono ?_); (case side1 => repeat (first | exact (Kd.R_reads' HO9745766.out).2.2 | (with_reducible refine Kd.C_alloc ?_ _) | (with_reducible refine Kd.C_drewN ?_ _) | (with_reducible refine Kd.C_drew ?_))); (case side2 => exact (Kd.R_reads' HO9745766.out).2.1); rintro e w' ⟨rfl, ⟨nd, rfl⟩⟩; refine ⟨_, rfl, ?_⟩; (try (rw [drewN_self w9617141]; generalize hq_ : World.drewN w9617141 _ = w9617141; have n0_ : Aside0 (Kd.R (Kd.int .i64) 2 w9617141 w.heap.size (fun _ => True) (.slice Ao9718679 y355.length co9718679) y355) := ⟨by rw [← hq_]; exact y97_⟩; have n1_ : Aside0 (w9617141.heap[gb9431567]? = some (.cells #[.int .i64 0, .slice none 0 0] 36 (0, 0))) := ⟨by rw [← hq_]; exact y24_⟩; have n2_ : Aside0 (Below w.heap.size w w9617141) := ⟨by rw [← hq_]; exact y11_⟩; clear HO9745766 BK9431567 HB hq_; have HO9745766 := n0_; have BK9431567 := n1_; have HB := n2_; clear n0_ n1_ n2_))) | ((with_reducible refine gate_callee (f := 36) rfl ?_); refine gc_ 36 22 Try.func36 #[.slice A0 l0.length c0, .int .i64 a1] ?_; (with_reducible refine (impl_kidsOf.calls k _ _ l0 a1 tx5 _ ?side1 ?side2 Ax5.out).mono ?_); (case side1 => repeat (first | exact (Kd.C_below HR0.out HB.out) | (with_reducible refine Kd.C_alloc ?_ _) | (with_reducible refine Kd.C_drewN ?_ _) | (with_reducible refine Kd.C_drew ?_))); (case side2 => exact HC0.out); rintro e w9898743 ⟨v9272735, rfl, ho0, hb⟩; refine ⟨_, rfl, ?_⟩; have n0_ := a_ (Kd.R_elder' y97_ (Kd.R_base ho0) hb); have n1_ := a_ (Kd.R_lower (Kd.R_new' ho0 (Kd.R_lt y97_)) (below_size y11_)); have n2_ := a_ (blk_below (g := gb9431567) (o := .cells #[.int .i64 0, .slice none 0 0] 36 (0, 0)) y24_ hb); have n3_ := a_ (below_step y11_ hb); clear HO9745766; clear BK9431567; clear HB; have HO9745766 := n0_; have HO9988648 := n1_; have BK9431567 := n2_; have HB := n3_; clear n0_ n1_ n2_ n3_; (try clear hb); (try clear hb9496414); (try clear hk); (try clear hi); (try clear ho0); obtain ⟨Ao9495638, co9495638, eo9495638⟩ := Kd.R_slice HO9988648.out; subst eo9495638; have hcz9834371_0 : w9898743.cell? ⟨gb9431567, 0, none⟩ = some (.int .i64 0) := (blk_cell BK9431567.out 0).trans rfl; have hcz9834371_1 : w9898743.cell? ⟨gb9431567, 1, none⟩ = some (.slice none 0 0) := (blk_cell BK9431567.out 1).trans rfl; have hfz9834371_0 := blk_frozen BK9431567.out 0; have hfz9834371_1 := blk_frozen BK9431567.out 1) | (have mkq_ := m0_1; clear mkq_; (with_reducible refine gate_callee (f := 24) rfl ?_); refine gc_ 24 15 Try.func24 #[.slice Ao9718679 y355.length co9718679] ?_; (with_reducible refine (impl_firstCode.calls k _ _ y355 tx3 _ ?side1 ?side2 Ax3.out).mono ?_); (case side1 => repeat (first | exact (Kd.R_reads' HO9745766.out).2.2 | (with_reducible refine Kd.C_alloc ?_ _) | (with_reducible refine Kd.C_drewN ?_ _) | (with_reducible refine Kd.C_drew ?_))); (case side2 => exact (Kd.R_reads' HO9745766.out).2.1); rintro e w' ⟨rfl, ⟨nd, rfl⟩⟩; refine ⟨_, rfl, ?_⟩; (try (rw [drewN_self w9617141]; generalize hq_ : World.drewN w9617141 _ = w9617141; have n0_ : Aside0 (Kd.R (Kd.int .i64) 2 w9617141 w.heap.size (fun _ => True) (.slice Ao9718679 y355.length co9718679) y355) := ⟨by rw [← hq_]; exact y97_⟩; have n1_ : Aside0 (w9617141.heap[gb9431567]? = some (.cells #[.int .i64 0, .slice none 0 0] 36 (0, 0))) := ⟨by rw [← hq_]; exact y24_⟩; have n2_ : Aside0 (Below w.heap.size w w9617141) := ⟨by rw [← hq_]; exact y11_⟩; clear HO9745766 BK9431567 HB hq_; have HO9745766 := n0_; have BK9431567 := n1_; have HB := n2_; clear n0_ n1_ n2_)); have hcz9535999_0 : w9617141.cell? ⟨gb9431567, 0, none⟩ = some (.int .i64 0) := (blk_cell BK9431567.out 0).trans rfl; have hcz9535999_1 : w9617141.cell? ⟨gb9431567, 1, none⟩ = some (.slice none 0 0) := (blk_cell BK9431567.out 1).trans rfl; have hfz9535999_0 := blk_frozen BK9431567.out 0; have hfz9535999_1 := blk_frozen BK9431567.out 1))
  first
  | fail_if_success clear m0_2
  |(clear m0_2; refine bodyPost_ret (results_cell_row rfl _ _ gb9431567 36 #[.int .i64 0, .slice Ao9495638 tx5.length co9495638] (0, 0) _ rfl y68_ Try.underlying36 rfl y35_) rfl ?_; exact ⟨_, y4_, by (with_reducible repeat (first | apply Kd.R_alloc | apply Kd.R_drewN | apply Kd.R_drew)); exact Kd.R_mono (Kd.R_far (p := ⟨gb9431567, 1, none⟩) (Kd.R_far (p := ⟨gb9431567, 0, none⟩) (Kd.R_types HO9988648.out BK9431567.out y49_) (fun _ hk => hk.2) (.int .i64 0)) (fun _ hk => hk.2) (.slice Ao9495638 tx5.length co9495638)) (fun _ hk => trivial), y11_⟩)
  first
  | fail_if_success clear m0_3
  |(clear m0_3; refine bodyPost_ret (results_cell_row rfl _ _ gb9431567 36 #[.int .i64 tx3, .slice none 0 0] (0, 0) _ rfl (by (with_reducible repeat (first | refine blk_drewN ?_ _ | refine blk_drew ?_ | refine blk_alloc ?_ _)); refine blk_put (cs := #[.int .i64 tx3, .slice none 0 0]) ?_ 1 _ rfl; (with_reducible repeat (first | refine blk_drewN ?_ _ | refine blk_drew ?_ | refine blk_alloc ?_ _)); refine blk_put (cs := #[.int .i64 0, .slice none 0 0]) ?_ 0 _ rfl; (with_reducible repeat (first | refine blk_drewN ?_ _ | refine blk_drew ?_ | refine blk_alloc ?_ _)); exact BK9431567.out) Try.underlying36 rfl y35_) rfl ?_; exact ⟨_, y4_, y72_, y11_⟩))

/-! ### laws_eqInt64S: function 37 -/
def laws_eqInt64S.l0 : Nat → List Int → List Int → Int → Option (Bool)
  | 0, _, _, _ => none
  | k + 1, x0, x1, x5 => if x5 < (x0.length : Int) then (if 0 ≤ x5 then (if x5 < (x1.length : Int) then (if (rd x0 x5) = (rd x1 x5) then (laws_eqInt64S.l0 k x0 x1 (wrap64 (x5 + 1))) else (some false)) else (none)) else (none)) else (some true)
def laws_eqInt64S.f (k : Nat) (l0 : List Int) (l1 : List Int) : Option (Bool) := if (l0.length : Int) = (l1.length : Int) then (laws_eqInt64S.l0 k l0 l1 0) else (some false)
theorem laws_eqInt64S.mono_l : ∀ k, (∀ y0 y1 y2, LeO (laws_eqInt64S.l0 k y0 y1 y2) (laws_eqInt64S.l0 (k + 1) y0 y1 y2))
  | 0 => fun _ _ _ r h => by simp [laws_eqInt64S.l0] at h
  | k + 1 => by
    have ih0 := laws_eqInt64S.mono_l k
    · intro y0 y1 y2
      unfold laws_eqInt64S.l0
      repeat' (with_reducible first | exact ih0 _ _ _ | exact LeO.refl _ | exact LeO.none _ | refine LeO.ite ?_ ?_ | refine LeO.bind ?_ (fun _ => ?_))
theorem laws_eqInt64S.mono : ∀ a0 a1 k, LeO (laws_eqInt64S.f k a0 a1) (laws_eqInt64S.f (k + 1) a0 a1) := by
  intro a0 a1 k
  have ih0 := laws_eqInt64S.mono_l k
  unfold laws_eqInt64S.f
  repeat' (with_reducible first | exact ih0 _ _ _ | exact LeO.refl _ | exact LeO.none _ | refine LeO.ite ?_ ?_ | refine LeO.bind ?_ (fun _ => ?_))
set_option maxHeartbeats 8000000 in
set_option maxRecDepth 100000 in
theorem laws_eqInt64S.calls (k : Nat) (A0 : Option Addr) (c0 : Nat) (l0 : List Int) (A1 : Option Addr) (c1 : Nat) (l1 : List Int) (r : Bool) (w : World) (hr0 : Kd.C (Kd.int .i64) w A0 l0.length l0) (hc0 : l0.length ≤ c0) (hr1 : Kd.C (Kd.int .i64) w A1 l1.length l1) (hc1 : l1.length ≤ c1) (h : laws_eqInt64S.f k l0 l1 = some r) :
    Calls Try.prog 37 #[.slice A0 l0.length c0, .slice A1 l1.length c1] w fun e w' => e = .returned (.bool r) ∧ Drawn0 w w' := by
 have HR0 := a_ hr0; have HC0 := a_ hc0; clear hr0 hc0; have HR1 := a_ hr1; have HC1 := a_ hc1; clear hr1 hc1; have H : (if (l0.length : Int) = (l1.length : Int) then (laws_eqInt64S.l0 k l0 l1 0) else (some false)) = some r := h; clear h; by_cases cx0 : (l0.length : Int) = (l1.length : Int)
 ·rw [if_pos cx0] at H; have cx0b0 : ((l0.length : Int) == (l1.length : Int)) = true := beq_iff_eq.mpr cx0; have cx0b1 : ((l0.length : Int) != (l1.length : Int)) = false := bne_eq_false_iff_eq.mpr cx0; have cx0b2 : (l0.length == l1.length) = true := by first | simpa using cx0 | (simp at cx0 ⊢; omega)
  clear cx0; have H' := a_ H; clear H; go_enter Try.func37, Try.ntmps37
  go_wp2
  repeat (go_quiet (fail); try go_wp2)
  go_loopg [5] k (fun kq v5 w' => ∃ (x5_1 : Int), v5 = .int .i64 x5_1 ∧ Aside0 (laws_eqInt64S.l0 kq l0 l1 x5_1 = some r) ∧ Aside0 (kq ≤ k) ∧ Drawn0 w w')
  case atStart => exact ⟨(0), y3_, H', ⟨Nat.le_refl _⟩, y6_⟩
  case round =>
   clear H'; (try clear cx0); (try clear cx0b0); (try clear cx0b1); (try clear cx0b2); obtain ⟨x5_1, rfl, HA, HK1, ⟨m1, rfl⟩⟩ := hrel; cases gk with
   | zero => exact absurd HA.out (by simp [laws_eqInt64S.l0])
   | succ k1 =>
    have H := HA.out; clear HA; simp only [laws_eqInt64S.l0] at H; by_cases cx1 : x5_1 < (l0.length : Int); rw [if_pos cx1] at H; have cx1b0 : decide (x5_1 < (l0.length : Int)) = true := decide_eq_true cx1; clear cx1; by_cases cx2 : 0 ≤ x5_1; rw [if_pos cx2] at H; have cx2b0 : decide (0 ≤ x5_1) = true := decide_eq_true cx2; clear cx2; by_cases cx3 : x5_1 < (l1.length : Int); rw [if_pos cx3] at H; have cx3b0 : decide (x5_1 < (l1.length : Int)) = true := decide_eq_true cx3; clear cx3; by_cases cx4 : (rd l0 x5_1) = (rd l1 x5_1); rw [if_pos cx4] at H; have cx4b0 : ((rd l0 x5_1) == (rd l1 x5_1)) = true := beq_iff_eq.mpr cx4; have cx4b1 : ((rd l0 x5_1) != (rd l1 x5_1)) = false := bne_eq_false_iff_eq.mpr cx4; clear cx4; have H' := a_ H; clear H; have m1_0 := t_; have m1_1 := t_; rotate_left; rw [if_neg cx4] at H; have cx4b0 : ((rd l0 x5_1) == (rd l1 x5_1)) = false := beq_eq_false_iff_ne.mpr cx4; have cx4b1 : ((rd l0 x5_1) != (rd l1 x5_1)) = true := bne_iff_ne.mpr cx4; obtain rfl := Option.some.inj H; have m1_0 := t_; have m1_2 := t_; rotate_left
    ·rw [if_neg cx3] at H; exact absurd H y100_
    ·rw [if_neg cx2] at H; exact absurd H y100_
    rw [if_neg cx1] at H; have cx1b0 : decide (x5_1 < (l0.length : Int)) = false := decide_eq_false cx1; clear cx1; obtain rfl := Option.some.inj H; have m1_3 := t_; rotate_left
    all_goals (
     first
     | fail_if_success clear m1_0
     |(clear m1_0; have p9922068 : 0 ≤ (x5_1 : Int) := of_decide_eq_true y2_; have q9922068 : x5_1 < (l0.length : Int) := of_decide_eq_true y2_; obtain ⟨ad9922068, e9922068, hx9922068_0⟩ := Kd.at_int HR0.out x5_1 p9922068 q9922068; cases e9922068; replace p9922068 := eq_true p9922068; replace q9922068 := eq_true q9922068; have p9548309 : 0 ≤ (x5_1 : Int) := of_decide_eq_true y2_; have q9548309 : x5_1 < (l1.length : Int) := of_decide_eq_true y2_; obtain ⟨ad9548309, e9548309, hx9548309_0⟩ := Kd.at_int HR1.out x5_1 p9548309 q9548309; cases e9548309; replace p9548309 := eq_true p9548309; replace q9548309 := eq_true q9548309; go_wp2
       repeat (go_quiet (fail); try go_wp2))
     first
     | fail_if_success clear m1_1
     |(clear m1_1; go_roundg k1
       case measure => have := HK1.out; omega
       case rel => exact ⟨(wrap64 (x5_1 + 1)), y3_, H', ⟨y48_⟩, y6_⟩)
     first
     | fail_if_success clear m1_2
     |(clear m1_2; go_ret
       exact ⟨y3_, y6_⟩)
     first
     | fail_if_success clear m1_3
     |(clear m1_3; go_wp2
       repeat (go_quiet (fail); try go_wp2)
       go_ret
       exact ⟨y3_, y6_⟩))
 ·rw [if_neg cx0] at H; have cx0b0 : ((l0.length : Int) == (l1.length : Int)) = false := beq_eq_false_iff_ne.mpr cx0; have cx0b1 : ((l0.length : Int) != (l1.length : Int)) = true := bne_iff_ne.mpr cx0; have cx0b2 : (l0.length == l1.length) = false := by first | simpa using cx0 | (simp at cx0 ⊢; omega)
  obtain rfl := Option.some.inj H; go_enter Try.func37, Try.ntmps37
  go_wp2
  repeat (go_quiet (fail); try go_wp2)
  go_ret
  exact ⟨y3_, y6_⟩

/-! ### laws_eqIntsResult: function 16 -/
def laws_eqIntsResult.f (k : Nat) (a0_0 : Int) (l0_1 : List Int) (a1_0 : Int) (l1_1 : List Int) : Option (Bool) := if a0_0 = a1_0 then ((laws_eqInt64S.f k l0_1 l1_1).bind fun t366 => (if t366 = true then (some true) else (some false))) else (some false)
theorem laws_eqIntsResult.mono : ∀ a0 a1 a2 a3 k, LeO (laws_eqIntsResult.f k a0 a1 a2 a3) (laws_eqIntsResult.f (k + 1) a0 a1 a2 a3) := by
  intro a0 a1 a2 a3 k
  unfold laws_eqIntsResult.f
  repeat' (with_reducible first | exact laws_eqInt64S.mono _ _ _ | exact LeO.refl _ | exact LeO.none _ | refine LeO.ite ?_ ?_ | refine LeO.bind ?_ (fun _ => ?_))
set_option maxHeartbeats 8000000 in
set_option maxRecDepth 100000 in
theorem laws_eqIntsResult.calls (k : Nat) (a0_0 : Int) (A0_1 : Option Addr) (c0_1 : Nat) (l0_1 : List Int) (a1_0 : Int) (A1_1 : Option Addr) (c1_1 : Nat) (l1_1 : List Int) (r : Bool) (w : World) (hr0_1 : Kd.C (Kd.int .i64) w A0_1 l0_1.length l0_1) (hc0_1 : l0_1.length ≤ c0_1) (hr1_1 : Kd.C (Kd.int .i64) w A1_1 l1_1.length l1_1) (hc1_1 : l1_1.length ≤ c1_1) (h : laws_eqIntsResult.f k a0_0 l0_1 a1_0 l1_1 = some r) :
    Calls Try.prog 16 #[.agg #[.int .i64 a0_0, .slice A0_1 l0_1.length c0_1], .agg #[.int .i64 a1_0, .slice A1_1 l1_1.length c1_1]] w fun e w' => e = .returned (.bool r) ∧ Below w.heap.size w w' := by
 have hu36 := Try.underlying36; have HR0_1 := a_ hr0_1; have HC0_1 := a_ hc0_1; clear hr0_1 hc0_1; have HR1_1 := a_ hr1_1; have HC1_1 := a_ hc1_1; clear hr1_1 hc1_1; have HB := a_ (Below.refl w.heap.size w); have H : (if a0_0 = a1_0 then ((laws_eqInt64S.f k l0_1 l1_1).bind fun t366 => (if t366 = true then (some true) else (some false))) else (some false)) = some r := h; clear h; by_cases cx0 : a0_0 = a1_0; rw [if_pos cx0] at H; have cx0b0 : (a0_0 == a1_0) = true := beq_iff_eq.mpr cx0; have cx0b1 : (a0_0 != a1_0) = false := bne_eq_false_iff_eq.mpr cx0; clear cx0; replace H := Option.bind_eq_some_iff.mp H; obtain ⟨tx1, Ay1, H⟩ := H; have Ax1 := a_ Ay1; clear Ay1; by_cases cx2 : tx1 = true; subst cx2; rw [if_pos rfl] at H; obtain rfl := Option.some.inj H; rotate_left; replace cx2 := Bool.eq_false_iff.mpr cx2; subst cx2; rw [if_neg (show ¬ (false = true) by decide)] at H; obtain rfl := Option.some.inj H; rotate_left; rw [if_neg cx0] at H; have cx0b0 : (a0_0 == a1_0) = false := beq_eq_false_iff_ne.mpr cx0; have cx0b1 : (a0_0 != a1_0) = true := bne_iff_ne.mpr cx0; obtain rfl := Option.some.inj H; rotate_left
 all_goals (
  go_enter Try.func16, Try.ntmps16
  go_wp2_with (first | ((with_reducible refine gate_dst (N := 2) rfl ?_); refine box_event zr_ (N := 2) zr_ (cs := #[.int .i64 a0_0, .slice A0_1 l0_1.length c0_1]) (t := 36) zs_ ?_; intro gb9429314 hg w9833953 hbox hb; have n0_ := a_ (below_step y0_ hb); have n1_ := a_ (hbox); have n2_ := a_ ((by rw [hg]; exact (below_size y0_) : w.heap.size ≤ gb9429314)); have n3_ := a_ ((by rw [hg]; exact (below_size y0_) : w.heap.size ≤ gb9429314)); clear HB; have HB := n0_; have BK9429314 := n1_; have GW9429314 := n2_; have GE9429314 := n3_; clear n0_ n1_ n2_ n3_; clear hb hbox hg) | ((with_reducible refine gate_dst (N := 3) rfl ?_); refine box_event zr_ (N := 3) zr_ (cs := #[.int .i64 a1_0, .slice A1_1 l1_1.length c1_1]) (t := 36) zs_ ?_; intro gb9502822 hg w9823023 hbox hb; have n0_ := a_ (blk_below (g := gb9429314) (o := .cells #[.int .i64 a0_0, .slice A0_1 l0_1.length c0_1] 36 (0, 0)) y104_ hb); have n1_ := a_ (below_step y61_ hb); have n2_ := a_ (hbox); have n3_ := a_ ((by rw [hg]; exact (below_size y61_) : w.heap.size ≤ gb9502822)); have n4_ := a_ ((by rw [hg]; exact (below_size y61_) : w.heap.size ≤ gb9502822)); have n5_ := a_ ((by rw [hg]; exact Nat.ne_of_lt (blk_lt (g := gb9429314) (o := .cells #[.int .i64 a0_0, .slice A0_1 l0_1.length c0_1] 36 (0, 0)) y104_) : gb9429314 ≠ gb9502822)); have n6_ := a_ ((by rw [hg]; exact Nat.ne_of_gt (blk_lt (g := gb9429314) (o := .cells #[.int .i64 a0_0, .slice A0_1 l0_1.length c0_1] 36 (0, 0)) y104_) : gb9502822 ≠ gb9429314)); clear BK9429314; clear HB; have BK9429314 := n0_; have HB := n1_; have BK9502822 := n2_; have GW9502822 := n3_; have GE9502822 := n4_; have NB364_365 := n5_; have NB365_364 := n6_; clear n0_ n1_ n2_ n3_ n4_ n5_ n6_; clear hb hbox hg; have hnb9641509 := NB364_365.out; have hnc9641509 := NB365_364.out; have hcz9657933_0 : w9823023.cell? ⟨gb9429314, 0, none⟩ = some (.int .i64 a0_0) := (blk_cell BK9429314.out 0).trans rfl; have hcz9657933_1 : w9823023.cell? ⟨gb9429314, 1, none⟩ = some (.slice A0_1 l0_1.length c0_1) := (blk_cell BK9429314.out 1).trans rfl; have hfz9657933_0 := blk_frozen BK9429314.out 0; have hfz9657933_1 := blk_frozen BK9429314.out 1; have hcz9128228_0 : w9823023.cell? ⟨gb9502822, 0, none⟩ = some (.int .i64 a1_0) := (blk_cell BK9502822.out 0).trans rfl; have hcz9128228_1 : w9823023.cell? ⟨gb9502822, 1, none⟩ = some (.slice A1_1 l1_1.length c1_1) := (blk_cell BK9502822.out 1).trans rfl; have hfz9128228_0 := blk_frozen BK9502822.out 0; have hfz9128228_1 := blk_frozen BK9502822.out 1) | ((with_reducible refine gate_callee (f := 37) rfl ?_); refine gc_ 37 14 Try.func37 #[.slice A0_1 l0_1.length c0_1, .slice A1_1 l1_1.length c1_1] ?_; (with_reducible refine (laws_eqInt64S.calls k _ _ l0_1 _ _ l1_1 _ _ ?side1 ?side2 ?side3 ?side4 Ax1.out).mono ?_); (case side1 => repeat (first | exact (Kd.C_below HR0_1.out HB.out) | (with_reducible refine Kd.C_alloc ?_ _) | (with_reducible refine Kd.C_drewN ?_ _) | (with_reducible refine Kd.C_drew ?_))); (case side2 => exact HC0_1.out); (case side3 => repeat (first | exact (Kd.C_below HR1_1.out HB.out) | (with_reducible refine Kd.C_alloc ?_ _) | (with_reducible refine Kd.C_drewN ?_ _) | (with_reducible refine Kd.C_drew ?_))); (case side4 => exact HC1_1.out); rintro e w' ⟨rfl, ⟨nd, rfl⟩⟩; refine ⟨_, rfl, ?_⟩))
  go_ret
  exact ⟨y4_, by repeat (first | (with_reducible first | exact HB.out | apply below_alloc | apply pw_below_drewN | apply below_drew1 | refine below_set ?_ GE9429314.out | refine below_set ?_ GE9502822.out) | exact HB.out)⟩)

/-! ### laws_markInt64S: function 40 -/
def laws_markInt64S.l0 : Nat → List Int → Int → Int → Option (Int × List Int)
  | 0, _, _, _ => none
  | k + 1, x0, x1, x5 => if x5 < (x0.length : Int) then (if 0 ≤ x5 then (laws_markInt64S.l0 k (x0.set (x5 : Int).toNat x1) (wrap64 (x1 + 1)) (wrap64 (x5 + 1))) else (none)) else (some (x1, x0))
def laws_markInt64S.f (k : Nat) (l0 : List Int) (a1 : Int) : Option (Int × List Int) := laws_markInt64S.l0 k l0 a1 0
theorem laws_markInt64S.mono_l : ∀ k, (∀ y0 y1 y2, LeO (laws_markInt64S.l0 k y0 y1 y2) (laws_markInt64S.l0 (k + 1) y0 y1 y2))
  | 0 => fun _ _ _ r h => by simp [laws_markInt64S.l0] at h
  | k + 1 => by
    have ih0 := laws_markInt64S.mono_l k
    · intro y0 y1 y2
      unfold laws_markInt64S.l0
      repeat' (with_reducible first | exact ih0 _ _ _ | exact LeO.refl _ | exact LeO.none _ | refine LeO.ite ?_ ?_ | refine LeO.bind ?_ (fun _ => ?_))
theorem laws_markInt64S.mono : ∀ a0 a1 k, LeO (laws_markInt64S.f k a0 a1) (laws_markInt64S.f (k + 1) a0 a1) := by
  intro a0 a1 k
  have ih0 := laws_markInt64S.mono_l k
  unfold laws_markInt64S.f
  repeat' (with_reducible first | exact ih0 _ _ _ | exact LeO.refl _ | exact LeO.none _ | refine LeO.ite ?_ ?_ | refine LeO.bind ?_ (fun _ => ?_))
set_option maxHeartbeats 8000000 in
set_option maxRecDepth 100000 in
theorem laws_markInt64S.calls (k : Nat) (P0_ : Nat → Prop) (u9000_ : Value) (l0 : List Int) (a1 : Int) (r1 : Int) (r2 : List Int) (w0 w : World) (hB : Below w0.heap.size w0 w) (ho0 : Kd.R (Kd.int .i64) 2 w w0.heap.size P0_ u9000_ l0) (h : laws_markInt64S.f k l0 a1 = some (r1, r2)) :
    Calls Try.prog 40 #[u9000_, .int .i64 a1] w fun e w' => e = .returned (.int .i64 r1) ∧ Kd.R (Kd.int .i64) 2 w' w0.heap.size (fun k_ => (P0_ k_ ∨ w.heap.size ≤ k_)) u9000_ r2 ∧ Below w0.heap.size w0 w' ∧ Kept w w' (fun k_ => P0_ k_) := by
 have HO0 := a_ (show Kd.R (Kd.int .i64) 2 w w0.heap.size (fun k_ => (P0_ k_ ∨ w.heap.size ≤ k_)) u9000_ l0 from Kd.R_mono ho0 (fun k_ hk => (.inl hk))); have HK := a_ (Kept.refl w (fun k_ => P0_ k_)); have HW0 := a_ hB.size; have HB := a_ hB; clear hB; have H : (laws_markInt64S.l0 k l0 a1 0) = some (r1, r2) := h; clear h; have H' := a_ H; clear H; go_enter Try.func40, Try.ntmps40
 go_wp2
 go_loopg [1, 5] k (fun kq v1 v5 w' => ∃ (x0_1 : List Int) (x1_1 : Int) (x5_1 : Int), v1 = .int .i64 x1_1 ∧ v5 = .int .i64 x5_1 ∧ Aside0 (laws_markInt64S.l0 kq x0_1 x1_1 x5_1 = some (r1, r2)) ∧ Aside0 (kq ≤ k) ∧ Aside0 (Kd.R (Kd.int .i64) 2 w' w0.heap.size (fun k_ => (P0_ k_ ∨ w.heap.size ≤ k_)) u9000_ x0_1) ∧ Aside0 (Kept w w' (fun k_ => P0_ k_)) ∧ Aside0 (Below w0.heap.size w0 w'))
 case atStart => exact ⟨(l0), (a1), (0), y3_, y3_, H', ⟨Nat.le_refl _⟩, ⟨by (with_reducible repeat (first | apply Kd.R_alloc | apply Kd.R_drewN | apply Kd.R_drew)); exact HO0.out⟩, ⟨y22_⟩, ⟨y0_⟩⟩
 case round =>
  clear H'; obtain ⟨x0_1, x1_1, x5_1, rfl, rfl, HA, HK1, HO_0, HK, HB⟩ := hrel; cases gk with
  | zero => exact absurd HA.out (by simp [laws_markInt64S.l0])
  | succ k1 =>
   have H := HA.out; clear HA; simp only [laws_markInt64S.l0] at H; by_cases cx0 : x5_1 < (x0_1.length : Int)
   ·rw [if_pos cx0] at H; have cx0b0 : decide (x5_1 < (x0_1.length : Int)) = true := decide_eq_true cx0; clear cx0; by_cases cx1 : 0 ≤ x5_1
    ·rw [if_pos cx1] at H; have cx1b0 : decide (0 ≤ x5_1) = true := decide_eq_true cx1; clear cx1; obtain ⟨y374, hy_⟩ : ∃ y_ : List Int, y_ = (x0_1.set (x5_1 : Int).toNat x1_1) := ⟨_, rfl⟩; replace H : (laws_markInt64S.l0 k1 y374 (wrap64 (x1_1 + 1)) (wrap64 (x5_1 + 1))) = some (r1, r2) := z0_; have Ny374 := a_ hy_; clear hy_; have H' := a_ H; clear H; obtain ⟨Ao6, co6, eo6⟩ := Kd.R_slice HO_0.out; subst eo6; have p5 : 0 ≤ (x5_1 : Int) := of_decide_eq_true y2_; have q5 : (x5_1 : Int) < ((x0_1.length : Int) : Int) := of_decide_eq_true y2_; obtain ⟨go5, co5, eo5, gb5, gl5, cl5, HG5⟩ := Kd.R_form HO_0.out (by omega); (first | cases eo5 | (injection eo5 with ea_ en_ ec_; (first | subst ea_ | (injection ea_ with ea_; subst ea_)); subst ec_; clear en_)); have GB5 := a_ gb5; have GG5 := a_ HG5; clear gb5 gl5 HG5; have HMgo5 := a_ (show (P0_ go5 ∨ w.heap.size ≤ go5) from (HO_0.out.1 _ rfl)); obtain ⟨hx5_0, hf5_0⟩ := Kd.R_celln 0 HO_0.out (x5_1 : Int) p5 q5; replace p5 := eq_true p5; replace q5 := eq_true q5; have HP7 := Kd.R_putg HO_0.out (x5_1 : Int) x1_1; go_wp2_with (first | ((with_reducible refine gate_store (t := 2) (p := 15) rfl ?_); refine store_event (t := 2) (p := 15) (v := ?vo_w8) (w1 := (wr.setCell ⟨go5, (x5_1 : Int).toNat, none⟩ (.int .i64 x1_1))) ?hg ?ho ?hn ?hr ?_; (case ho => rfl); (case hg => rfl); (case hn => rfl); (case hr => first | (go_simp; done) | (go_simp; rfl)); intro w8 hw; have hg : wr.grownBy w8 (some go5) := (by rw [hw]; exact HP7.2); have hp_ : Kd.R (Kd.int .i64) 2 w8 w0.heap.size (fun k_ => (P0_ k_ ∨ w.heap.size ≤ k_)) (.slice (some ⟨go5, 0, none⟩) x0_1.length co6) y374 := (by rw [hw, Ny374.out]; exact HP7.1); clear HP7; have n0_ := a_ (hp_); have n1_ := a_ ((by rw [hw]; exact below_set (HB.out) GB5.out : Below w0.heap.size w0 w8)); have n2_ := a_ (Kept.of_grown (S := (fun k_ => P0_ k_)) hg y22_ (fun k_ e_ => (HO_0.out.1 k_ e_))); clear HO_0; clear HB; clear HK; have HO_0 := n0_; have HB := n1_; have HK := n2_; clear n0_ n1_ n2_; clear hg hw hp_))
     go_roundg k1
     case measure => have := HK1.out; omega
     case rel => exact ⟨(y374), (wrap64 (x1_1 + 1)), (wrap64 (x5_1 + 1)), y3_, y3_, H', ⟨y48_⟩, ⟨y38_⟩, ⟨y22_⟩, ⟨y0_⟩⟩
    ·rw [if_neg cx1] at H; exact absurd H y100_
   ·rw [if_neg cx0] at H; have cx0b0 : decide (x5_1 < (x0_1.length : Int)) = false := decide_eq_false cx0; clear cx0; simp only [Option.some.injEq, Prod.mk.injEq] at H; obtain ⟨rfl, rfl⟩ := H; obtain ⟨Ao9, co9, eo9⟩ := Kd.R_slice HO_0.out; subst eo9; go_wp2
    go_ret
    exact ⟨y4_, y38_, y0_, y22_⟩

/-! ### laws_markIntsResult: function 18 -/
def laws_markIntsResult.f (k : Nat) (a0_0 : Int) (l0_1 : List Int) (a1 : Int) : Option (Int × List Int) := (laws_markInt64S.f k l0_1 a1).bind fun bt376 => (some (bt376.1, bt376.2))
theorem laws_markIntsResult.mono : ∀ a0 a1 a2 k, LeO (laws_markIntsResult.f k a0 a1 a2) (laws_markIntsResult.f (k + 1) a0 a1 a2) := by
  intro a0 a1 a2 k
  unfold laws_markIntsResult.f
  repeat' (with_reducible first | exact laws_markInt64S.mono _ _ _ | exact LeO.refl _ | exact LeO.none _ | refine LeO.ite ?_ ?_ | refine LeO.bind ?_ (fun _ => ?_))
set_option maxHeartbeats 8000000 in
set_option maxRecDepth 100000 in
theorem laws_markIntsResult.calls (k : Nat) (a0_0 : Int) (P0_1_ : Nat → Prop) (u9000_ : Value) (l0_1 : List Int) (a1 : Int) (r1 : Int) (r2 : List Int) (w0 w : World) (hB : Below w0.heap.size w0 w) (ho0_1 : Kd.R (Kd.int .i64) 2 w w0.heap.size P0_1_ u9000_ l0_1) (h : laws_markIntsResult.f k a0_0 l0_1 a1 = some (r1, r2)) :
    Calls Try.prog 18 #[.agg #[.int .i64 a0_0, u9000_], .int .i64 a1] w fun e w' => e = .returned (.int .i64 r1) ∧ Kd.R (Kd.int .i64) 2 w' w0.heap.size (fun k_ => (P0_1_ k_ ∨ w.heap.size ≤ k_)) u9000_ r2 ∧ Below w0.heap.size w0 w' ∧ Kept w w' (fun k_ => P0_1_ k_) := by
 have hu36 := Try.underlying36; have HO0_1 := a_ (show Kd.R (Kd.int .i64) 2 w w0.heap.size (fun k_ => (P0_1_ k_ ∨ w.heap.size ≤ k_)) u9000_ l0_1 from Kd.R_mono ho0_1 (fun k_ hk => (.inl hk))); have HK := a_ (Kept.refl w (fun k_ => P0_1_ k_)); have HW0 := a_ hB.size; have HB := a_ hB; clear hB; have H : ((laws_markInt64S.f k l0_1 a1).bind fun bt376 => (some (bt376.1, bt376.2))) = some (r1, r2) := h; clear h; replace H := Option.bind_eq_some_iff.mp H; obtain ⟨⟨t376, t377⟩, A30, H⟩ := H; replace H : (some (t376, t377)) = some (r1, r2) := H; have A3 := a_ A30; clear A30; simp only [Option.some.injEq, Prod.mk.injEq] at H; obtain ⟨rfl, rfl⟩ := H; obtain ⟨Ao4, co4, eo4⟩ := Kd.R_slice HO0_1.out; subst eo4; go_enter Try.func18, Try.ntmps18
 go_wp2_with (first | ((with_reducible refine gate_dst (N := 2) rfl ?_); refine box_event zr_ (N := 2) zr_ (cs := #[.int .i64 a0_0, .slice Ao4 l0_1.length co4]) (t := 36) zs_ ?_; intro gb375 hg w5 hbox hb; have n0_ := a_ (Kd.R_below y43_ hb); have n1_ := a_ (Kept.below (S := (fun k_ => P0_1_ k_)) y22_ hb); have n2_ := a_ (below_step y0_ hb); have n3_ := a_ (hbox); have n4_ := a_ ((by rw [hg]; exact (by first | exact HK.out.1 | exact (show Kept w _ (fun k_ => P0_1_ k_) from by repeat (first | (with_reducible first | exact HK.out | apply Kept.alloc | apply Kept.drewN | apply Kept.drew) | exact HK.out)).1) : w.heap.size ≤ gb375)); have n5_ := a_ ((by rw [hg]; exact (below_size y0_) : w0.heap.size ≤ gb375)); clear HO0_1; clear HK; clear HB; have HO0_1 := n0_; have HK := n1_; have HB := n2_; have BK375 := n3_; have GW375 := n4_; have GE375 := n5_; clear n0_ n1_ n2_ n3_ n4_ n5_; clear hb hbox hg; have hcz6_0 : w5.cell? ⟨gb375, 0, none⟩ = some (.int .i64 a0_0) := (blk_cell BK375.out 0).trans rfl; have hcz6_1 : w5.cell? ⟨gb375, 1, none⟩ = some (.slice Ao4 l0_1.length co4) := (blk_cell BK375.out 1).trans rfl; have hfz6_0 := blk_frozen BK375.out 0; have hfz6_1 := blk_frozen BK375.out 1) | ((with_reducible refine gate_callee (f := 40) rfl ?_); refine gc_ 40 8 Try.func40 #[.slice Ao4 l0_1.length co4, .int .i64 a1] ?_; (with_reducible refine (laws_markInt64S.calls k (fun k_ => some k_ = (.slice Ao4 l0_1.length co4 : Value).ownBlock) (.slice Ao4 l0_1.length co4) l0_1 a1 t376 t377 w0 _ ?side1 ?side2 A3.out).mono ?_); (case side1 => repeat (first | (with_reducible first | exact HB.out | apply below_alloc | apply pw_below_drewN | apply below_drew1 | refine below_set ?_ GE375.out) | exact HB.out)); (case side2 => exact Kd.R_tight rfl HO0_1.out); rintro e w7 ⟨rfl, hy0, hb, hkp⟩; refine ⟨_, rfl, ?_⟩; have n0_ := a_ (Kd.R_reok rfl hy0 (fun k_ e_ => HO0_1.out.1 k_ e_)); have n1_ := a_ (blk_kept (by (with_reducible repeat (first | refine blk_drewN ?_ _ | refine blk_drew ?_ | refine blk_alloc ?_ _)); exact BK375.out) hkp (fun hs_ => (fun e_ => (Kd.R_ne HO0_1.out BK375.out y49_) e_) hs_)); have n2_ := a_ (Kept.then_ (S := (fun k_ => P0_1_ k_)) (by repeat (first | (with_reducible first | exact HK.out | apply Kept.alloc | apply Kept.drewN | apply Kept.drew | refine Kept.setCell ?_ (.inr GW375.out) _) | exact HK.out)) hkp (fun k_ hs_ => (fun e_ => (HO0_1.out.1 k_ e_.symm)) hs_)); have n3_ := a_ (hb); clear HO0_1; clear BK375; clear HK; clear HB; have HO0_1 := n0_; have BK375 := n1_; have HK := n2_; have HB := n3_; clear n0_ n1_ n2_ n3_; (try clear hb); (try clear hkp); (try clear hy0)))
 go_ret
 exact ⟨y4_, y43_, by repeat (first | (with_reducible first | exact HB.out | apply below_alloc | apply pw_below_drewN | apply below_drew1 | refine below_set ?_ GE375.out) | exact HB.out), by repeat (first | (with_reducible first | exact HK.out | apply Kept.alloc | apply Kept.drewN | apply Kept.drew | refine Kept.setCell ?_ (.inr GW375.out) _) | exact HK.out)⟩

/-! ### laws_heldInt64S: function 41 -/
def laws_heldInt64S.l0 : Nat → List Int → Int → Int → Option (Int)
  | 0, _, _, _ => none
  | k + 1, x0, x1, x5 => if x5 < (x0.length : Int) then (if 0 ≤ x5 then (if (rd x0 x5) = x1 then (laws_heldInt64S.l0 k x0 (wrap64 (x1 + 1)) (wrap64 (x5 + 1))) else (some (-1))) else (none)) else (some x1)
def laws_heldInt64S.f (k : Nat) (l0 : List Int) (a1 : Int) : Option (Int) := laws_heldInt64S.l0 k l0 a1 0
theorem laws_heldInt64S.mono_l : ∀ k, (∀ y0 y1 y2, LeO (laws_heldInt64S.l0 k y0 y1 y2) (laws_heldInt64S.l0 (k + 1) y0 y1 y2))
  | 0 => fun _ _ _ r h => by simp [laws_heldInt64S.l0] at h
  | k + 1 => by
    have ih0 := laws_heldInt64S.mono_l k
    · intro y0 y1 y2
      unfold laws_heldInt64S.l0
      repeat' (with_reducible first | exact ih0 _ _ _ | exact LeO.refl _ | exact LeO.none _ | refine LeO.ite ?_ ?_ | refine LeO.bind ?_ (fun _ => ?_))
theorem laws_heldInt64S.mono : ∀ a0 a1 k, LeO (laws_heldInt64S.f k a0 a1) (laws_heldInt64S.f (k + 1) a0 a1) := by
  intro a0 a1 k
  have ih0 := laws_heldInt64S.mono_l k
  unfold laws_heldInt64S.f
  repeat' (with_reducible first | exact ih0 _ _ _ | exact LeO.refl _ | exact LeO.none _ | refine LeO.ite ?_ ?_ | refine LeO.bind ?_ (fun _ => ?_))
set_option maxHeartbeats 8000000 in
set_option maxRecDepth 100000 in
theorem laws_heldInt64S.calls (k : Nat) (A0 : Option Addr) (c0 : Nat) (l0 : List Int) (a1 : Int) (r : Int) (w : World) (hr0 : Kd.C (Kd.int .i64) w A0 l0.length l0) (hc0 : l0.length ≤ c0) (h : laws_heldInt64S.f k l0 a1 = some r) :
    Calls Try.prog 41 #[.slice A0 l0.length c0, .int .i64 a1] w fun e w' => e = .returned (.int .i64 r) ∧ Drawn0 w w' := by
 have HR0 := a_ hr0; have HC0 := a_ hc0; clear hr0 hc0; have H : (laws_heldInt64S.l0 k l0 a1 0) = some r := h; clear h; have H' := a_ H; clear H; go_enter Try.func41, Try.ntmps41
 go_wp2
 go_loopg [1, 5] k (fun kq v1 v5 w' => ∃ (x1_1 : Int) (x5_1 : Int), v1 = .int .i64 x1_1 ∧ v5 = .int .i64 x5_1 ∧ Aside0 (laws_heldInt64S.l0 kq l0 x1_1 x5_1 = some r) ∧ Aside0 (kq ≤ k) ∧ Drawn0 w w')
 case atStart => exact ⟨(a1), (0), y3_, y3_, H', ⟨Nat.le_refl _⟩, y6_⟩
 case round =>
  clear H'; obtain ⟨x1_1, x5_1, rfl, rfl, HA, HK1, ⟨m1, rfl⟩⟩ := hrel; cases gk with
  | zero => exact absurd HA.out (by simp [laws_heldInt64S.l0])
  | succ k1 =>
   have H := HA.out; clear HA; simp only [laws_heldInt64S.l0] at H; by_cases c3 : x5_1 < (l0.length : Int)
   ·rw [if_pos c3] at H; have c3b0 : decide (x5_1 < (l0.length : Int)) = true := decide_eq_true c3; clear c3; by_cases c4 : 0 ≤ x5_1
    ·rw [if_pos c4] at H; have c4b0 : decide (0 ≤ x5_1) = true := decide_eq_true c4; clear c4; by_cases c5 : (rd l0 x5_1) = x1_1
     ·rw [if_pos c5] at H; have c5b0 : ((rd l0 x5_1) == x1_1) = true := beq_iff_eq.mpr c5; have c5b1 : ((rd l0 x5_1) != x1_1) = false := bne_eq_false_iff_eq.mpr c5; clear c5; have H' := a_ H; clear H; have p378 : 0 ≤ (x5_1 : Int) := of_decide_eq_true y2_; have q378 : x5_1 < (l0.length : Int) := of_decide_eq_true y2_; obtain ⟨ad378, e378, hx378_0⟩ := Kd.at_int HR0.out x5_1 p378 q378; cases e378; replace p378 := eq_true p378; replace q378 := eq_true q378; go_wp2
      go_roundg k1
      case measure => have := HK1.out; omega
      case rel => exact ⟨(wrap64 (x1_1 + 1)), (wrap64 (x5_1 + 1)), y3_, y3_, H', ⟨y48_⟩, y6_⟩
     ·rw [if_neg c5] at H; have c5b0 : ((rd l0 x5_1) == x1_1) = false := beq_eq_false_iff_ne.mpr c5; have c5b1 : ((rd l0 x5_1) != x1_1) = true := bne_iff_ne.mpr c5; obtain rfl := Option.some.inj H; have p378 : 0 ≤ (x5_1 : Int) := of_decide_eq_true y2_; have q378 : x5_1 < (l0.length : Int) := of_decide_eq_true y2_; obtain ⟨ad378, e378, hx378_0⟩ := Kd.at_int HR0.out x5_1 p378 q378; cases e378; replace p378 := eq_true p378; replace q378 := eq_true q378; go_wp2
      go_ret
      exact ⟨y3_, y6_⟩
    ·rw [if_neg c4] at H; exact absurd H y100_
   ·rw [if_neg c3] at H; have c3b0 : decide (x5_1 < (l0.length : Int)) = false := decide_eq_false c3; clear c3; obtain rfl := Option.some.inj H; go_wp2
    go_ret
    exact ⟨y3_, y6_⟩

end Go.Proofs.Ytbjakfnfjndccaa.T
