-- Written by a program of this session's own (xp.py) for this seat.
import Derived.Test.YtcpcenhpmcfmjaaLZ
import Derived.Test.YtcpcenhpmcfmjaaL0
import Derived.Test.YtcpcenhpmcfmjaaL3
import Derived.Test.YtcpcenhpmcfmjaaL9
import Derived.Test.YtcpcenhpmcfmjaaL17
namespace Go.Proofs.Ytcpcenhpmcfmjaa.L
open Go.RowKit Go.Proofs.YtcpcenhpmcfmjaaW.PrintWords Go.Proofs.YtcpcenhpmcfmjaaW.PrintLast Go.Proofs.YtcpcenhpmcfmjaaW.PrintMore
attribute [local go_sem] Instr.field asAgg
attribute [local go_sem] max2_int min2_int max_two min_two max_three min_three max_four min_four   -- for this text's walks alone
set_option linter.unusedVariables false
set_option linter.unusedSimpArgs false

/-! ### spec_l4Under: function 75 -/
def spec_l4Under.l0 : Nat → List (S78) → Int → List Int → Int → Option (List Int)
  | 0, _, _, _, _ => none
  | k + 1, x0, x1, x5, x6 => if x6 < (x0.length : Int) then ((spec_l4Deep.f k x0 x6).bind fun t630 => ((spec_l4Deep.f k x0 x1).bind fun t631 => (if t630 > t631 then (if x5.length < 17592186044416 then (spec_l4Under.l0 k x0 x1 (x5 ++ [x6]) (wrap64 (x6 + 1))) else (none)) else (some x5)))) else (some x5)
def spec_l4Under.f (k : Nat) (l0 : List (S78)) (a1 : Int) : Option (List Int) := spec_l4Under.l0 k l0 a1 (([a1] : List Int)) (wrap64 (a1 + 1))
theorem spec_l4Under.mono_l : ∀ k, (∀ y0 y1 y2 y3, LeO (spec_l4Under.l0 k y0 y1 y2 y3) (spec_l4Under.l0 (k + 1) y0 y1 y2 y3))
  | 0 => fun _ _ _ _ r h => by simp [spec_l4Under.l0] at h
  | k + 1 => by
    have ih0 := spec_l4Under.mono_l k
    · intro y0 y1 y2 y3
      unfold spec_l4Under.l0
      repeat' (with_reducible first | exact ih0 _ _ _ _ | exact spec_l4Deep.mono _ _ _ | exact LeO.refl _ | exact LeO.none _ | refine LeO.ite ?_ ?_ | refine LeO.bind ?_ (fun _ => ?_))
theorem spec_l4Under.mono : ∀ a0 a1 k, LeO (spec_l4Under.f k a0 a1) (spec_l4Under.f (k + 1) a0 a1) := by
  intro a0 a1 k
  have ih0 := spec_l4Under.mono_l k
  unfold spec_l4Under.f
  repeat' (with_reducible first | exact ih0 _ _ _ _ | exact spec_l4Deep.mono _ _ _ | exact LeO.refl _ | exact LeO.none _ | refine LeO.ite ?_ ?_ | refine LeO.bind ?_ (fun _ => ?_))
set_option maxHeartbeats 8000000 in
set_option maxRecDepth 100000 in
theorem spec_l4Under.calls (k : Nat) (A0 : Option Addr) (c0 : Nat) (l0 : List (S78)) (a1 : Int) (r : List Int) (w : World) (hr0 : Kd.C k78 w A0 l0.length l0) (hc0 : l0.length ≤ c0) (h : spec_l4Under.f k l0 a1 = some r) :
    Calls Try.prog 75 #[.slice A0 l0.length c0, .int .i64 a1] w fun e w' => ∃ v0_ : Value, e = .returned (v0_) ∧ Kd.R (Kd.int .i64) 2 w' w.heap.size (fun _ => True) v0_ r ∧ Below w.heap.size w w' := by
 have HR0 := a_ hr0; have HC0 := a_ hc0; clear hr0 hc0; have HB := a_ (Below.refl w.heap.size w); have H : (spec_l4Under.l0 k l0 a1 (([a1] : List Int)) (wrap64 (a1 + 1))) = some r := h; clear h; obtain ⟨y627, hy_⟩ : ∃ y_ : List Int, y_ = (([a1] : List Int)) := ⟨_, rfl⟩; replace H : (spec_l4Under.l0 k l0 a1 y627 (wrap64 (a1 + 1))) = some r := z0_; have Ny627 := a_ hy_; clear hy_; have H' := a_ H; clear H; go_enter Try.func75, Try.ntmps75
 go_wp2_with (first | ((with_reducible refine gate_dst (N := 8) rfl ?_); refine Kd.R_lit (Kd.int .i64) _ 2 ?hg (N := 8) ?hd (xs := ([a1] : List Int)) (inner := [.int .i64 a1]) (ok := fun _ => True) (okp := fun _ => True) ?hr ?hp (fun _ hk => hk) trivial (Below.refl _ _) (Nat.le_refl _) y92_ ?_; (case hd => rfl); (case hg => rfl); (case hr => first | (go_simp; done) | (go_simp; rfl)); (case hp => exact (Reps.one (show Kd.M (Kd.int .i64) _ _ _ a1 [.int .i64 a1] from rfl) (Reps.none _ _))); intro v628 w3 ho4 hb hg_ hnew_; clear hg_ hnew_; (first | rw [← Ny627.out] at ho4 | (simp only [Int.reduceToNat] at ho4; rw [← Ny627.out] at ho4)); have n0_ := a_ (Kd.R_lower ho4 (below_size y0_)); have n1_ := a_ (below_step y0_ hb); clear HB; have HO629 := n0_; have HB := n1_; clear n0_ n1_; clear hb ho4))
 go_loopg [5, 6] k (fun kq v5 v6 w' => ∃ (x5_1 : List Int) (x6_1 : Int), v6 = .int .i64 x6_1 ∧ Aside0 (spec_l4Under.l0 kq l0 a1 x5_1 x6_1 = some r) ∧ Aside0 (kq ≤ k) ∧ Aside0 (Kd.R (Kd.int .i64) 2 w' w.heap.size (fun _ => True) v5 x5_1) ∧ Aside0 (Below w.heap.size w w'))
 case atStart => exact ⟨(y627), (wrap64 (a1 + 1)), y1_, H', ⟨Nat.le_refl _⟩, ⟨by (with_reducible repeat (first | apply Kd.R_alloc | apply Kd.R_drewN | apply Kd.R_drew)); exact HO629.out⟩, ⟨y0_⟩⟩
 case round =>
  clear H'; obtain ⟨x5_1, x6_1, rfl, HA, HK1, HO_5, HB⟩ := hrel; cases gk with
  | zero => exact absurd HA.out (by simp [spec_l4Under.l0])
  | succ k1 =>
   have H := HA.out; clear HA; simp only [spec_l4Under.l0] at H; by_cases cx0 : x6_1 < (l0.length : Int); rw [if_pos cx0] at H; have cx0b0 : decide (x6_1 < (l0.length : Int)) = true := decide_eq_true cx0; clear cx0; replace H := Option.bind_eq_some_iff.mp H; obtain ⟨tx1, Ay1, H⟩ := H; have Ax1 := a_ Ay1; clear Ay1; replace H := Option.bind_eq_some_iff.mp H; obtain ⟨tx2, Ay2, H⟩ := H; have Ax2 := a_ Ay2; clear Ay2; by_cases cx3 : tx1 > tx2; rw [if_pos cx3] at H; have cx3b0 : decide (tx2 < tx1) = true := decide_eq_true cx3; clear cx3; by_cases cx4 : x5_1.length < 17592186044416; rw [if_pos cx4] at H; have LMcx4 := a_ cx4; clear cx4; obtain ⟨y632, hy_⟩ : ∃ y_ : List Int, y_ = (x5_1 ++ [x6_1]) := ⟨_, rfl⟩; replace H : (spec_l4Under.l0 k1 l0 a1 y632 (wrap64 (x6_1 + 1))) = some r := z0_; have Ny632 := a_ hy_; clear hy_; have H' := a_ H; clear H; have m0_0 := t_; have m0_1 := t_; rotate_left
   ·rw [if_neg cx4] at H; exact absurd H y92_
   rw [if_neg cx3] at H; have cx3b0 : decide (tx2 < tx1) = false := decide_eq_false cx3; clear cx3; obtain rfl := Option.some.inj H; have m0_0 := t_; have m0_3 := t_; rotate_left; rw [if_neg cx0] at H; have cx0b0 : decide (x6_1 < (l0.length : Int)) = false := decide_eq_false cx0; clear cx0; obtain rfl := Option.some.inj H; have m0_2 := t_; have m0_3 := t_; rotate_left
   all_goals (
    first
    | fail_if_success clear m0_0
    |(clear m0_0; go_wp2_with (first | (go_at_call 63; (with_reducible refine (spec_l4Deep.calls k1 _ _ l0 x6_1 tx1 _ ?side1 ?side2 Ax1.out).mono ?_); (case side1 => repeat (first | exact (Kd.C_below HR0.out HB.out) | (with_reducible refine Kd.C_alloc ?_ _) | (with_reducible refine Kd.C_drewN ?_ _) | (with_reducible refine Kd.C_drew ?_))); (case side2 => exact HC0.out); rintro e w' ⟨rfl, ⟨nd, rfl⟩⟩) | (go_at_call 63; (with_reducible refine (spec_l4Deep.calls k1 _ _ l0 a1 tx2 _ ?side1 ?side2 Ax2.out).mono ?_); (case side1 => repeat (first | exact (Kd.C_below HR0.out y0_) | (with_reducible refine Kd.C_alloc ?_ _) | (with_reducible refine Kd.C_drewN ?_ _) | (with_reducible refine Kd.C_drew ?_))); (case side2 => exact HC0.out); rintro e w' ⟨rfl, ⟨nd, rfl⟩⟩) | ((with_reducible refine gate_builtin (b := .append) (xs := #[.tmp 26, .tmp 28]) rfl ?_); at_builtin; refine Kd.R_append (Kd.int .i64) (w0 := w) w.heap.size rfl (.tmp 26) (.tmp 28) 27 2 (.int .i64 0) 8 rfl Try.underlying27 info2 rfl y37_ y136_ u5 x5_1 x6_1 [.int .i64 x6_1] (fun _ => True) (fun _ => False) rfl rfl ?aP (fun _ hk => hk.elim) ?aF ?aO ?aB ?aS ?aL ?_; (case aP => exact rfl); (case aB => exact y0_); (case aF => exact (fun _ _ => trivial)); (case aO => exact y63_); (case aS => exact (below_size y0_)); (case aL => have := LMcx4.out; omega); intro v9949818 w9247594 ho hb hg hat; rw [← Ny632.out] at ho; have n0_ := a_ (hb); have n1_ := a_ (ho); clear HB; clear HO_5; have HB := n0_; have HO9958369 := n1_; clear n0_ n1_; clear ho hb hg hat)))
    first
    | fail_if_success clear m0_1
    |(clear m0_1; go_roundg k1
      case measure => have := HK1.out; omega
      case rel => exact ⟨(y632), (wrap64 (x6_1 + 1)), y1_, H', ⟨y85_⟩, ⟨by (with_reducible repeat (first | apply Kd.R_alloc | apply Kd.R_drewN | apply Kd.R_drew)); exact HO9958369.out⟩, ⟨y0_⟩⟩)
    first
    | fail_if_success clear m0_2
    |(clear m0_2; go_wp2)
    first
    | fail_if_success clear m0_3
    |(clear m0_3; go_ret
      exact ⟨_, y3_, y63_, y0_⟩))

/-! ### spec_StepsUnder: function 34 -/
def spec_StepsUnder.f (k : Nat) (l0 : List (S78)) (a1 : Int) : Option (Int × List Int) := (spec_l4Fault.f k l0).bind fun t636 => (if t636 = 0 then ((spec_l1In.f a1 0 (wrap64 ((l0.length : Int) - 1))).bind fun t637 => (if t637 = true then ((spec_l4Under.f k l0 a1).bind fun t638 => (some (0, t638))) else (some (3, ([] : List Int))))) else (some (t636, ([] : List Int))))
theorem spec_StepsUnder.mono : ∀ a0 a1 k, LeO (spec_StepsUnder.f k a0 a1) (spec_StepsUnder.f (k + 1) a0 a1) := by
  intro a0 a1 k
  unfold spec_StepsUnder.f
  repeat' (with_reducible first | exact spec_l4Fault.mono _ _ | exact spec_l4Under.mono _ _ _ | exact LeO.refl _ | exact LeO.none _ | refine LeO.ite ?_ ?_ | refine LeO.bind ?_ (fun _ => ?_))
set_option maxHeartbeats 8000000 in
set_option maxRecDepth 100000 in
theorem spec_StepsUnder.calls (k : Nat) (A0 : Option Addr) (c0 : Nat) (l0 : List (S78)) (a1 : Int) (r1 : Int) (r2 : List Int) (w : World) (hr0 : Kd.C k78 w A0 l0.length l0) (hc0 : l0.length ≤ c0) (h : spec_StepsUnder.f k l0 a1 = some (r1, r2)) :
    Calls Try.prog 34 #[.slice A0 l0.length c0, .int .i64 a1] w fun e w' => ∃ v1_ : Value, e = .returned (.agg #[.int .i64 r1, v1_]) ∧ Kd.R (Kd.int .i64) 2 w' w.heap.size (fun _ => True) v1_ r2 ∧ Below w.heap.size w w' := by
 have hu29 := Try.underlying29; have HR0 := a_ hr0; have HC0 := a_ hc0; clear hr0 hc0; have HB := a_ (Below.refl w.heap.size w); have H : ((spec_l4Fault.f k l0).bind fun t636 => (if t636 = 0 then ((spec_l1In.f a1 0 (wrap64 ((l0.length : Int) - 1))).bind fun t637 => (if t637 = true then ((spec_l4Under.f k l0 a1).bind fun t638 => (some (0, t638))) else (some (3, ([] : List Int))))) else (some (t636, ([] : List Int))))) = some (r1, r2) := h; clear h; replace H := Option.bind_eq_some_iff.mp H; obtain ⟨tx0, Ay0, H⟩ := H; have Ax0 := a_ Ay0; clear Ay0; by_cases cx1 : tx0 = 0; rw [if_pos cx1] at H; have cx1b0 : (tx0 == 0) = true := beq_iff_eq.mpr cx1; have cx1b1 : (tx0 != 0) = false := bne_eq_false_iff_eq.mpr cx1; clear cx1; replace H := Option.bind_eq_some_iff.mp H; obtain ⟨tx2, Ay2, H⟩ := H; have Ax2 := a_ Ay2; clear Ay2; by_cases cx3 : tx2 = true; subst cx3; rw [if_pos rfl] at H; replace H := Option.bind_eq_some_iff.mp H; obtain ⟨tx4, Ay4, H⟩ := H; have Ax4 := a_ Ay4; clear Ay4; simp only [Option.some.injEq, Prod.mk.injEq] at H; obtain ⟨rfl, rfl⟩ := H; have m0_0 := t_; have m0_1 := t_; have m0_4 := t_; rotate_left; replace cx3 := Bool.eq_false_iff.mpr cx3; subst cx3; rw [if_neg (show ¬ (false = true) by decide)] at H; simp only [Option.some.injEq, Prod.mk.injEq] at H; obtain ⟨rfl, rfl⟩ := H; have m0_0 := t_; have m0_2 := t_; have m0_5 := t_; have m0_7 := t_; rotate_left; rw [if_neg cx1] at H; have cx1b0 : (tx0 == 0) = false := beq_eq_false_iff_ne.mpr cx1; have cx1b1 : (tx0 != 0) = true := bne_iff_ne.mpr cx1; simp only [Option.some.injEq, Prod.mk.injEq] at H; obtain ⟨rfl, rfl⟩ := H; have m0_3 := t_; have m0_6 := t_; have m0_7 := t_; rotate_left
 all_goals (
  go_enter Try.func34, Try.ntmps34
  go_wp2_with (first | ((with_reducible refine gate_dst (N := 4) rfl ?_); refine box_event zr_ (N := 4) zr_ (cs := #[.int .i64 0, .slice none 0 0]) (t := 29) zs_ ?_; intro gb9919741 hg w9177455 hbox hb; have n0_ := a_ (below_step y0_ hb); have n1_ := a_ (hbox); have n2_ := a_ ((by rw [hg]; exact (below_size y0_) : w.heap.size ≤ gb9919741)); have n3_ := a_ ((by rw [hg]; exact (below_size y0_) : w.heap.size ≤ gb9919741)); clear HB; have HB := n0_; have BK9919741 := n1_; have GW9919741 := n2_; have GE9919741 := n3_; clear n0_ n1_ n2_ n3_; clear hb hbox hg) | (have mkq_ := m0_0; clear mkq_; (with_reducible refine gate_callee (f := 54) rfl ?_); refine gc_ 54 7 Try.func54 #[.slice A0 l0.length c0] ?_; (with_reducible refine (spec_l4Fault.calls k _ _ l0 tx0 _ ?side1 ?side2 Ax0.out).mono ?_); (case side1 => repeat (first | exact (Kd.C_below HR0.out HB.out) | (with_reducible refine Kd.C_alloc ?_ _) | (with_reducible refine Kd.C_drewN ?_ _) | (with_reducible refine Kd.C_drew ?_))); (case side2 => exact HC0.out); rintro e w9337449 ⟨rfl, hb⟩; refine ⟨_, rfl, ?_⟩; have n0_ := a_ (blk_below (g := gb9919741) (o := .cells #[.int .i64 0, .slice none 0 0] 29 (0, 0)) y24_ hb); have n1_ := a_ (below_step y11_ hb); clear BK9919741; clear HB; have BK9919741 := n0_; have HB := n1_; clear n0_ n1_; (try clear hb); (try clear hb9477640); (try clear hk); (try clear hi)) | (have mkq_ := m0_1; clear mkq_; (with_reducible refine gate_callee (f := 74) rfl ?_); refine gc_ 74 16 Try.func74 #[.int .i64 a1, .int .i64 0, .int .i64 (wrap64 ((l0.length : Int) - 1))] ?_; (with_reducible refine (spec_l1In.calls a1 0 (wrap64 ((l0.length : Int) - 1)) _ _ Ax2.out).mono ?_); rintro e w' ⟨rfl, ⟨nd, rfl⟩⟩; refine ⟨_, rfl, ?_⟩; (try (rw [drewN_self w9337449]; generalize hq_ : World.drewN w9337449 _ = w9337449; have n0_ : Aside0 (w9337449.heap[gb9919741]? = some (.cells #[.int .i64 0, .slice none 0 0] 29 (0, 0))) := ⟨by rw [← hq_]; exact y24_⟩; have n1_ : Aside0 (Below w.heap.size w w9337449) := ⟨by rw [← hq_]; exact y11_⟩; clear BK9919741 HB hq_; have BK9919741 := n0_; have HB := n1_; clear n0_ n1_))) | ((with_reducible refine gate_callee (f := 75) rfl ?_); refine gc_ 75 21 Try.func75 #[.slice A0 l0.length c0, .int .i64 a1] ?_; (with_reducible refine (spec_l4Under.calls k _ _ l0 a1 tx4 _ ?side1 ?side2 Ax4.out).mono ?_); (case side1 => repeat (first | exact (Kd.C_below HR0.out HB.out) | (with_reducible refine Kd.C_alloc ?_ _) | (with_reducible refine Kd.C_drewN ?_ _) | (with_reducible refine Kd.C_drew ?_))); (case side2 => exact HC0.out); rintro e w9365920 ⟨v9729897, rfl, ho0, hb⟩; refine ⟨_, rfl, ?_⟩; have n0_ := a_ (Kd.R_lower ho0 (below_size y11_)); have n1_ := a_ (blk_below (g := gb9919741) (o := .cells #[.int .i64 0, .slice none 0 0] 29 (0, 0)) y24_ hb); have n2_ := a_ (below_step y11_ hb); clear BK9919741; clear HB; have HO9991688 := n0_; have BK9919741 := n1_; have HB := n2_; clear n0_ n1_ n2_; (try clear hb); (try clear hb9477640); (try clear hk); (try clear hi); (try clear ho0); obtain ⟨Ao9563002, co9563002, eo9563002⟩ := Kd.R_slice HO9991688.out; subst eo9563002; have hcz9814481_0 : w9365920.cell? ⟨gb9919741, 0, none⟩ = some (.int .i64 0) := (blk_cell BK9919741.out 0).trans rfl; have hcz9814481_1 : w9365920.cell? ⟨gb9919741, 1, none⟩ = some (.slice none 0 0) := (blk_cell BK9919741.out 1).trans rfl; have hfz9814481_0 := blk_frozen BK9919741.out 0; have hfz9814481_1 := blk_frozen BK9919741.out 1) | (have mkq_ := m0_2; clear mkq_; (with_reducible refine gate_callee (f := 74) rfl ?_); refine gc_ 74 16 Try.func74 #[.int .i64 a1, .int .i64 0, .int .i64 (wrap64 ((l0.length : Int) - 1))] ?_; (with_reducible refine (spec_l1In.calls a1 0 (wrap64 ((l0.length : Int) - 1)) _ _ Ax2.out).mono ?_); rintro e w' ⟨rfl, ⟨nd, rfl⟩⟩; refine ⟨_, rfl, ?_⟩; (try (rw [drewN_self w9337449]; generalize hq_ : World.drewN w9337449 _ = w9337449; have n0_ : Aside0 (w9337449.heap[gb9919741]? = some (.cells #[.int .i64 0, .slice none 0 0] 29 (0, 0))) := ⟨by rw [← hq_]; exact y24_⟩; have n1_ : Aside0 (Below w.heap.size w w9337449) := ⟨by rw [← hq_]; exact y11_⟩; clear BK9919741 HB hq_; have BK9919741 := n0_; have HB := n1_; clear n0_ n1_)); have hcz9209027_0 : w9337449.cell? ⟨gb9919741, 0, none⟩ = some (.int .i64 0) := (blk_cell BK9919741.out 0).trans rfl; have hcz9209027_1 : w9337449.cell? ⟨gb9919741, 1, none⟩ = some (.slice none 0 0) := (blk_cell BK9919741.out 1).trans rfl; have hfz9209027_0 := blk_frozen BK9919741.out 0; have hfz9209027_1 := blk_frozen BK9919741.out 1) | (have mkq_ := m0_3; clear mkq_; (with_reducible refine gate_callee (f := 54) rfl ?_); refine gc_ 54 7 Try.func54 #[.slice A0 l0.length c0] ?_; (with_reducible refine (spec_l4Fault.calls k _ _ l0 tx0 _ ?side1 ?side2 Ax0.out).mono ?_); (case side1 => repeat (first | exact (Kd.C_below HR0.out HB.out) | (with_reducible refine Kd.C_alloc ?_ _) | (with_reducible refine Kd.C_drewN ?_ _) | (with_reducible refine Kd.C_drew ?_))); (case side2 => exact HC0.out); rintro e w9337449 ⟨rfl, hb⟩; refine ⟨_, rfl, ?_⟩; have n0_ := a_ (blk_below (g := gb9919741) (o := .cells #[.int .i64 0, .slice none 0 0] 29 (0, 0)) y24_ hb); have n1_ := a_ (below_step y11_ hb); clear BK9919741; clear HB; have BK9919741 := n0_; have HB := n1_; clear n0_ n1_; (try clear hb); (try clear hb9477640); (try clear hk); (try clear hi); have hcz9560549_0 : w9337449.cell? ⟨gb9919741, 0, none⟩ = some (.int .i64 0) := (blk_cell BK9919741.out 0).trans rfl; have hcz9560549_1 : w9337449.cell? ⟨gb9919741, 1, none⟩ = some (.slice none 0 0) := (blk_cell BK9919741.out 1).trans rfl; have hfz9560549_0 := blk_frozen BK9919741.out 0; have hfz9560549_1 := blk_frozen BK9919741.out 1))
  first
  | fail_if_success clear m0_4
  |(clear m0_4; refine bodyPost_ret (results_cell_row rfl _ _ gb9919741 29 #[.int .i64 0, .slice Ao9563002 tx4.length co9563002] (0, 0) _ rfl y117_ Try.underlying29 rfl y49_) rfl ?_; exact ⟨_, y3_, by (with_reducible repeat (first | apply Kd.R_alloc | apply Kd.R_drewN | apply Kd.R_drew)); exact Kd.R_mono (Kd.R_far (p := ⟨gb9919741, 1, none⟩) (Kd.R_far (p := ⟨gb9919741, 0, none⟩) (Kd.R_types HO9991688.out BK9919741.out y37_) (fun _ hk => hk.2) (.int .i64 0)) (fun _ hk => hk.2) (.slice Ao9563002 tx4.length co9563002)) (fun _ hk => trivial), y11_⟩)
  first
  | fail_if_success clear m0_5
  |(clear m0_5; refine bodyPost_ret (results_cell_row rfl _ _ gb9919741 29 #[.int .i64 3, .slice none 0 0] (0, 0) _ rfl (by (with_reducible repeat (first | refine blk_drewN ?_ _ | refine blk_drew ?_ | refine blk_alloc ?_ _)); refine blk_put (cs := #[.int .i64 3, .slice none 0 0]) ?_ 1 _ rfl; (with_reducible repeat (first | refine blk_drewN ?_ _ | refine blk_drew ?_ | refine blk_alloc ?_ _)); refine blk_put (cs := #[.int .i64 0, .slice none 0 0]) ?_ 0 _ rfl; (with_reducible repeat (first | refine blk_drewN ?_ _ | refine blk_drew ?_ | refine blk_alloc ?_ _)); exact BK9919741.out) Try.underlying29 rfl y49_) rfl ?_)
  first
  | fail_if_success clear m0_6
  |(clear m0_6; refine bodyPost_ret (results_cell_row rfl _ _ gb9919741 29 #[.int .i64 tx0, .slice none 0 0] (0, 0) _ rfl (by (with_reducible repeat (first | refine blk_drewN ?_ _ | refine blk_drew ?_ | refine blk_alloc ?_ _)); refine blk_put (cs := #[.int .i64 tx0, .slice none 0 0]) ?_ 1 _ rfl; (with_reducible repeat (first | refine blk_drewN ?_ _ | refine blk_drew ?_ | refine blk_alloc ?_ _)); refine blk_put (cs := #[.int .i64 0, .slice none 0 0]) ?_ 0 _ rfl; (with_reducible repeat (first | refine blk_drewN ?_ _ | refine blk_drew ?_ | refine blk_alloc ?_ _)); exact BK9919741.out) Try.underlying29 rfl y49_) rfl ?_)
  first
  | fail_if_success clear m0_7
  |(clear m0_7; exact ⟨_, y3_, y65_, y11_⟩))

/-! ### impl_isPlace: function 77 -/
def impl_isPlace.f (a0 : Int) (a1 : Int) : Option (Bool) := (impl_inRange.f a0 0 (wrap64 (a1 - 1))).bind fun t641 => (some t641)
set_option maxHeartbeats 8000000 in
set_option maxRecDepth 100000 in
theorem impl_isPlace.calls (a0 : Int) (a1 : Int) (r : Bool) (w : World) (h : impl_isPlace.f a0 a1 = some r) :
    Calls Try.prog 77 #[.int .i64 a0, .int .i64 a1] w fun e w' => e = .returned (.bool r) ∧ Drawn0 w w' := by
 have H : ((impl_inRange.f a0 0 (wrap64 (a1 - 1))).bind fun t641 => (some t641)) = some r := h; clear h; replace H := Option.bind_eq_some_iff.mp H; obtain ⟨t641, A30, H⟩ := H; have A3 := a_ A30; clear A30; obtain rfl := Option.some.inj H; go_enter Try.func77, Try.ntmps77
 go_wp2_with (first | ((with_reducible refine gate_callee (f := 56) rfl ?_); refine gc_ 56 8 Try.func56 #[.int .i64 a0, .int .i64 0, .int .i64 (wrap64 (a1 - 1))] ?_; (with_reducible refine (impl_inRange.calls a0 0 (wrap64 (a1 - 1)) t641 _ A3.out).mono ?_); rintro e w' ⟨rfl, ⟨nd, rfl⟩⟩; refine ⟨_, rfl, ?_⟩))
 go_ret
 exact ⟨y1_, y8_⟩

/-! ### impl_isUnder: function 110 -/
def impl_isUnder.l0 : Nat → List (S78) → Int → Int → Option (Bool)
  | 0, _, _, _ => none
  | k + 1, x0, x1, x2 => if x1 > x2 then (if 0 ≤ x1 then (if x1 < (x0.length : Int) then (impl_isUnder.l0 k x0 ((rd_T78 x0 x1).f1) x2) else (none)) else (none)) else (some (x1 == x2))
def impl_isUnder.f (k : Nat) (l0 : List (S78)) (a1 : Int) (a2 : Int) : Option (Bool) := impl_isUnder.l0 k l0 a1 a2
theorem impl_isUnder.mono_l : ∀ k, (∀ y0 y1 y2, LeO (impl_isUnder.l0 k y0 y1 y2) (impl_isUnder.l0 (k + 1) y0 y1 y2))
  | 0 => fun _ _ _ r h => by simp [impl_isUnder.l0] at h
  | k + 1 => by
    have ih0 := impl_isUnder.mono_l k
    · intro y0 y1 y2
      unfold impl_isUnder.l0
      repeat' (with_reducible first | exact ih0 _ _ _ | exact LeO.refl _ | exact LeO.none _ | refine LeO.ite ?_ ?_ | refine LeO.bind ?_ (fun _ => ?_))
theorem impl_isUnder.mono : ∀ a0 a1 a2 k, LeO (impl_isUnder.f k a0 a1 a2) (impl_isUnder.f (k + 1) a0 a1 a2) := by
  intro a0 a1 a2 k
  have ih0 := impl_isUnder.mono_l k
  unfold impl_isUnder.f
  repeat' (with_reducible first | exact ih0 _ _ _ | exact LeO.refl _ | exact LeO.none _ | refine LeO.ite ?_ ?_ | refine LeO.bind ?_ (fun _ => ?_))
set_option maxHeartbeats 8000000 in
set_option maxRecDepth 100000 in
theorem impl_isUnder.calls (k : Nat) (A0 : Option Addr) (c0 : Nat) (l0 : List (S78)) (a1 : Int) (a2 : Int) (r : Bool) (w : World) (hr0 : Kd.C k78 w A0 l0.length l0) (hc0 : l0.length ≤ c0) (h : impl_isUnder.f k l0 a1 a2 = some r) :
    Calls Try.prog 110 #[.slice A0 l0.length c0, .int .i64 a1, .int .i64 a2] w fun e w' => e = .returned (.bool r) ∧ Drawn0 w w' := by
 have HR0 := a_ hr0; have HC0 := a_ hc0; clear hr0 hc0; have H : (impl_isUnder.l0 k l0 a1 a2) = some r := h; clear h; have H' := a_ H; clear H; go_enter Try.func110, Try.ntmps110
 go_wp2
 go_loopg [1] k (fun kq v1 w' => ∃ (x1_1 : Int), v1 = .int .i64 x1_1 ∧ Aside0 (impl_isUnder.l0 kq l0 x1_1 a2 = some r) ∧ Aside0 (kq ≤ k) ∧ Drawn0 w w')
 case atStart => exact ⟨(a1), y1_, H', ⟨Nat.le_refl _⟩, y8_⟩
 case round =>
  clear H'; obtain ⟨x1_1, rfl, HA, HK1, ⟨m1, rfl⟩⟩ := hrel; cases gk with
  | zero => exact absurd HA.out (by simp [impl_isUnder.l0])
  | succ k1 =>
   have H := HA.out; clear HA; simp only [impl_isUnder.l0] at H; by_cases c4 : x1_1 > a2
   ·rw [if_pos c4] at H; have c4b0 : decide (a2 < x1_1) = true := decide_eq_true c4; clear c4; by_cases c5 : 0 ≤ x1_1
    ·rw [if_pos c5] at H; have c5b0 : decide (0 ≤ x1_1) = true := decide_eq_true c5; clear c5; by_cases c6 : x1_1 < (l0.length : Int)
     ·rw [if_pos c6] at H; have c6b0 : decide (x1_1 < (l0.length : Int)) = true := decide_eq_true c6; clear c6; have H' := a_ H; clear H; have p642 : 0 ≤ (x1_1 : Int) := of_decide_eq_true y2_; have q642 : x1_1 < (l0.length : Int) := of_decide_eq_true y2_; obtain ⟨ad642, A642_4, c642_4, A642_5, c642_5, e642, hx642_0, hx642_1, hx642_2, hx642_3, hx642_4, hx642_5, hl642_4, hi642_4, hl642_5, hi642_5⟩ := at_T78 HR0.out x1_1 p642 q642; cases e642; have HR642_4 := a_ hi642_4; have HC642_4 := a_ hl642_4; clear hi642_4 hl642_4; have HR642_5 := a_ hi642_5; have HC642_5 := a_ hl642_5; clear hi642_5 hl642_5; replace p642 := eq_true p642; replace q642 := eq_true q642; go_wp2
      go_roundg k1
      case measure => have := HK1.out; omega
      case rel => exact ⟨((rd_T78 l0 x1_1).f1), y1_, H', ⟨y85_⟩, y8_⟩
     ·rw [if_neg c6] at H; exact absurd H y92_
    ·rw [if_neg c5] at H; exact absurd H y92_
   ·rw [if_neg c4] at H; have c4b0 : decide (a2 < x1_1) = false := decide_eq_false c4; clear c4; obtain rfl := Option.some.inj H; go_wp2
    go_ret
    exact ⟨y1_, y8_⟩

/-! ### impl_under: function 78 -/
def impl_under.l0 : Nat → List (S78) → Int → List Int → Int → Option (List Int)
  | 0, _, _, _, _ => none
  | k + 1, x0, x1, x5, x6 => if x6 < (x0.length : Int) then ((impl_isUnder.f k x0 x6 x1).bind fun t646 => (if t646 = true then (if x5.length < 17592186044416 then (impl_under.l0 k x0 x1 (x5 ++ [x6]) (wrap64 (x6 + 1))) else (none)) else (impl_under.l0 k x0 x1 x5 (wrap64 (x6 + 1))))) else (some x5)
def impl_under.f (k : Nat) (l0 : List (S78)) (a1 : Int) : Option (List Int) := impl_under.l0 k l0 a1 (([] : List Int)) a1
theorem impl_under.mono_l : ∀ k, (∀ y0 y1 y2 y3, LeO (impl_under.l0 k y0 y1 y2 y3) (impl_under.l0 (k + 1) y0 y1 y2 y3))
  | 0 => fun _ _ _ _ r h => by simp [impl_under.l0] at h
  | k + 1 => by
    have ih0 := impl_under.mono_l k
    · intro y0 y1 y2 y3
      unfold impl_under.l0
      repeat' (with_reducible first | exact ih0 _ _ _ _ | exact impl_isUnder.mono _ _ _ _ | exact LeO.refl _ | exact LeO.none _ | refine LeO.ite ?_ ?_ | refine LeO.bind ?_ (fun _ => ?_))
theorem impl_under.mono : ∀ a0 a1 k, LeO (impl_under.f k a0 a1) (impl_under.f (k + 1) a0 a1) := by
  intro a0 a1 k
  have ih0 := impl_under.mono_l k
  unfold impl_under.f
  repeat' (with_reducible first | exact ih0 _ _ _ _ | exact impl_isUnder.mono _ _ _ _ | exact LeO.refl _ | exact LeO.none _ | refine LeO.ite ?_ ?_ | refine LeO.bind ?_ (fun _ => ?_))
set_option maxHeartbeats 8000000 in
set_option maxRecDepth 100000 in
theorem impl_under.calls (k : Nat) (A0 : Option Addr) (c0 : Nat) (l0 : List (S78)) (a1 : Int) (r : List Int) (w : World) (hr0 : Kd.C k78 w A0 l0.length l0) (hc0 : l0.length ≤ c0) (h : impl_under.f k l0 a1 = some r) :
    Calls Try.prog 78 #[.slice A0 l0.length c0, .int .i64 a1] w fun e w' => ∃ v0_ : Value, e = .returned (v0_) ∧ Kd.R (Kd.int .i64) 2 w' w.heap.size (fun _ => True) v0_ r ∧ Below w.heap.size w w' := by
 have HR0 := a_ hr0; have HC0 := a_ hc0; clear hr0 hc0; have HB := a_ (Below.refl w.heap.size w); have H : (impl_under.l0 k l0 a1 (([] : List Int)) a1) = some r := h; clear h; obtain ⟨y643, hy_⟩ : ∃ y_ : List Int, y_ = (([] : List Int)) := ⟨_, rfl⟩; replace H : (impl_under.l0 k l0 a1 y643 a1) = some r := z0_; have Ny643 := a_ hy_; clear hy_; have H' := a_ H; clear H; go_enter Try.func78, Try.ntmps78
 go_wp2_with (first | ((with_reducible refine gate_dst (N := 7) rfl ?_); refine Kd.R_lit (Kd.int .i64) _ 2 ?hg (N := 7) ?hd (xs := ([] : List Int)) (inner := []) (ok := fun _ => True) (okp := fun _ => True) ?hr ?hp (fun _ hk => hk) trivial (Below.refl _ _) (Nat.le_refl _) y92_ ?_; (case hd => rfl); (case hg => rfl); (case hr => first | (go_simp; done) | (go_simp; rfl)); (case hp => exact (Reps.none _ _)); intro v644 w3 ho4 hb hg_ hnew_; clear hg_ hnew_; (first | rw [← Ny643.out] at ho4 | (simp only [Int.reduceToNat] at ho4; rw [← Ny643.out] at ho4)); have n0_ := a_ (Kd.R_lower ho4 (below_size y0_)); have n1_ := a_ (below_step y0_ hb); clear HB; have HO645 := n0_; have HB := n1_; clear n0_ n1_; clear hb ho4))
 go_loopg [5, 6] k (fun kq v5 v6 w' => ∃ (x5_1 : List Int) (x6_1 : Int), v6 = .int .i64 x6_1 ∧ Aside0 (impl_under.l0 kq l0 a1 x5_1 x6_1 = some r) ∧ Aside0 (kq ≤ k) ∧ Aside0 (Kd.R (Kd.int .i64) 2 w' w.heap.size (fun _ => True) v5 x5_1) ∧ Aside0 (Below w.heap.size w w'))
 case atStart => exact ⟨(y643), (a1), y1_, H', ⟨Nat.le_refl _⟩, ⟨by (with_reducible repeat (first | apply Kd.R_alloc | apply Kd.R_drewN | apply Kd.R_drew)); exact HO645.out⟩, ⟨y0_⟩⟩
 case round =>
  clear H'; obtain ⟨x5_1, x6_1, rfl, HA, HK1, HO_5, HB⟩ := hrel; cases gk with
  | zero => exact absurd HA.out (by simp [impl_under.l0])
  | succ k1 =>
   have H := HA.out; clear HA; simp only [impl_under.l0] at H; by_cases cx0 : x6_1 < (l0.length : Int); rw [if_pos cx0] at H; have cx0b0 : decide (x6_1 < (l0.length : Int)) = true := decide_eq_true cx0; clear cx0; replace H := Option.bind_eq_some_iff.mp H; obtain ⟨tx1, Ay1, H⟩ := H; have Ax1 := a_ Ay1; clear Ay1; by_cases cx2 : tx1 = true; subst cx2; rw [if_pos rfl] at H; by_cases cx3 : x5_1.length < 17592186044416; rw [if_pos cx3] at H; have LMcx3 := a_ cx3; clear cx3; obtain ⟨y647, hy_⟩ : ∃ y_ : List Int, y_ = (x5_1 ++ [x6_1]) := ⟨_, rfl⟩; replace H : (impl_under.l0 k1 l0 a1 y647 (wrap64 (x6_1 + 1))) = some r := z0_; have Ny647 := a_ hy_; clear hy_; have H' := a_ H; clear H; have m0_0 := t_; have m0_1 := t_; rotate_left
   ·rw [if_neg cx3] at H; exact absurd H y92_
   replace cx2 := Bool.eq_false_iff.mpr cx2; subst cx2; rw [if_neg (show ¬ (false = true) by decide)] at H; have H' := a_ H; clear H; have m0_0 := t_; have m0_2 := t_; rotate_left; rw [if_neg cx0] at H; have cx0b0 : decide (x6_1 < (l0.length : Int)) = false := decide_eq_false cx0; clear cx0; obtain rfl := Option.some.inj H; have m0_3 := t_; rotate_left
   all_goals (
    first
    | fail_if_success clear m0_0
    |(clear m0_0; go_wp2_with (first | ((with_reducible refine gate_callee (f := 110) rfl ?_); refine gc_ 110 18 Try.func110 #[.slice A0 l0.length c0, .int .i64 x6_1, .int .i64 a1] ?_; (with_reducible refine (impl_isUnder.calls k1 _ _ l0 x6_1 a1 _ _ ?side1 ?side2 Ax1.out).mono ?_); (case side1 => repeat (first | exact (Kd.C_below HR0.out HB.out) | (with_reducible refine Kd.C_alloc ?_ _) | (with_reducible refine Kd.C_drewN ?_ _) | (with_reducible refine Kd.C_drew ?_))); (case side2 => exact HC0.out); rintro e w' ⟨rfl, ⟨nd, rfl⟩⟩; refine ⟨_, rfl, ?_⟩) | ((with_reducible refine gate_builtin (b := .append) (xs := #[.tmp 19, .tmp 21]) rfl ?_); at_builtin; refine Kd.R_append (Kd.int .i64) (w0 := w) w.heap.size rfl (.tmp 19) (.tmp 21) 27 2 (.int .i64 0) 8 rfl Try.underlying27 info2 rfl y37_ y136_ u5 x5_1 x6_1 [.int .i64 x6_1] (fun _ => True) (fun _ => False) rfl rfl ?aP (fun _ hk => hk.elim) ?aF ?aO ?aB ?aS ?aL ?_; (case aP => exact rfl); (case aB => exact y0_); (case aF => exact (fun _ _ => trivial)); (case aO => exact y63_); (case aS => exact (below_size y0_)); (case aL => have := LMcx3.out; omega); intro v9997075 w9091474 ho hb hg hat; rw [← Ny647.out] at ho; have n0_ := a_ (hb); have n1_ := a_ (ho); clear HB; clear HO_5; have HB := n0_; have HO9218286 := n1_; clear n0_ n1_; clear ho hb hg hat))
      go_roundg k1
      case measure => have := HK1.out; omega)
    first
    | fail_if_success clear m0_1
    |(clear m0_1
      case rel => exact ⟨(y647), (wrap64 (x6_1 + 1)), y1_, H', ⟨y85_⟩, ⟨by (with_reducible repeat (first | apply Kd.R_alloc | apply Kd.R_drewN | apply Kd.R_drew)); exact HO9218286.out⟩, ⟨y0_⟩⟩)
    first
    | fail_if_success clear m0_2
    |(clear m0_2
      case rel => exact ⟨(x5_1), (wrap64 (x6_1 + 1)), y1_, H', ⟨y85_⟩, ⟨y63_⟩, ⟨y0_⟩⟩)
    first
    | fail_if_success clear m0_3
    |(clear m0_3; go_wp2
      go_ret
      exact ⟨_, y3_, y63_, y0_⟩))

/-! ### impl_StepsUnder: function 35 -/
def impl_StepsUnder.f (k : Nat) (l0 : List (S78)) (a1 : Int) : Option (Int × List Int) := (impl_ProcFault.f k l0).bind fun t651 => ((impl_isPlace.f a1 (l0.length : Int)).bind fun t652 => ((impl_codeIf.f (!t652) 3).bind fun t653 => ((impl_firstCode.f k (([t651, t653] : List Int))).bind fun t657 => (if t657 = 0 then ((impl_under.f k l0 a1).bind fun t658 => (some (0, t658))) else (some (t657, ([] : List Int)))))))
theorem impl_StepsUnder.mono : ∀ a0 a1 k, LeO (impl_StepsUnder.f k a0 a1) (impl_StepsUnder.f (k + 1) a0 a1) := by
  intro a0 a1 k
  unfold impl_StepsUnder.f
  repeat' (with_reducible first | exact impl_ProcFault.mono _ _ | exact impl_firstCode.mono _ _ | exact impl_under.mono _ _ _ | exact LeO.refl _ | exact LeO.none _ | refine LeO.ite ?_ ?_ | refine LeO.bind ?_ (fun _ => ?_))
set_option maxHeartbeats 8000000 in
set_option maxRecDepth 100000 in
theorem impl_StepsUnder.calls (k : Nat) (A0 : Option Addr) (c0 : Nat) (l0 : List (S78)) (a1 : Int) (r1 : Int) (r2 : List Int) (w : World) (hr0 : Kd.C k78 w A0 l0.length l0) (hc0 : l0.length ≤ c0) (h : impl_StepsUnder.f k l0 a1 = some (r1, r2)) :
    Calls Try.prog 35 #[.slice A0 l0.length c0, .int .i64 a1] w fun e w' => ∃ v1_ : Value, e = .returned (.agg #[.int .i64 r1, v1_]) ∧ Kd.R (Kd.int .i64) 2 w' w.heap.size (fun _ => True) v1_ r2 ∧ Below w.heap.size w w' := by
 have hu29 := Try.underlying29; have HR0 := a_ hr0; have HC0 := a_ hc0; clear hr0 hc0; have HB := a_ (Below.refl w.heap.size w); have H : ((impl_ProcFault.f k l0).bind fun t651 => ((impl_isPlace.f a1 (l0.length : Int)).bind fun t652 => ((impl_codeIf.f (!t652) 3).bind fun t653 => ((impl_firstCode.f k (([t651, t653] : List Int))).bind fun t657 => (if t657 = 0 then ((impl_under.f k l0 a1).bind fun t658 => (some (0, t658))) else (some (t657, ([] : List Int)))))))) = some (r1, r2) := h; clear h; replace H := Option.bind_eq_some_iff.mp H; obtain ⟨tx0, Ay0, H⟩ := H; have Ax0 := a_ Ay0; clear Ay0; replace H := Option.bind_eq_some_iff.mp H; obtain ⟨tx1, Ay1, H⟩ := H; have Ax1 := a_ Ay1; clear Ay1; replace H := Option.bind_eq_some_iff.mp H; obtain ⟨tx2, Ay2, H⟩ := H; have Ax2 := a_ Ay2; clear Ay2; obtain ⟨y654, hy_⟩ : ∃ y_ : List Int, y_ = (([tx0, tx2] : List Int)) := ⟨_, rfl⟩; replace H : ((impl_firstCode.f k y654).bind fun t657 => (if t657 = 0 then ((impl_under.f k l0 a1).bind fun t658 => (some (0, t658))) else (some (t657, ([] : List Int))))) = some (r1, r2) := z0_; have Ny654 := a_ hy_; clear hy_; replace H := Option.bind_eq_some_iff.mp H; obtain ⟨tx3, Ay3, H⟩ := H; have Ax3 := a_ Ay3; clear Ay3; by_cases cx4 : tx3 = 0; rw [if_pos cx4] at H; have cx4b0 : (tx3 == 0) = true := beq_iff_eq.mpr cx4; have cx4b1 : (tx3 != 0) = false := bne_eq_false_iff_eq.mpr cx4; clear cx4; replace H := Option.bind_eq_some_iff.mp H; obtain ⟨tx5, Ay5, H⟩ := H; have Ax5 := a_ Ay5; clear Ay5; simp only [Option.some.injEq, Prod.mk.injEq] at H; obtain ⟨rfl, rfl⟩ := H; have m0_0 := t_; have m0_2 := t_; rotate_left; rw [if_neg cx4] at H; have cx4b0 : (tx3 == 0) = false := beq_eq_false_iff_ne.mpr cx4; have cx4b1 : (tx3 != 0) = true := bne_iff_ne.mpr cx4; simp only [Option.some.injEq, Prod.mk.injEq] at H; obtain ⟨rfl, rfl⟩ := H; have m0_1 := t_; have m0_3 := t_; rotate_left
 all_goals (
  go_enter Try.func35, Try.ntmps35
  go_wp2_with (first | ((with_reducible refine gate_dst (N := 4) rfl ?_); refine box_event zr_ (N := 4) zr_ (cs := #[.int .i64 0, .slice none 0 0]) (t := 29) zs_ ?_; intro gb9919741 hg w9177455 hbox hb; have n0_ := a_ (below_step y0_ hb); have n1_ := a_ (hbox); have n2_ := a_ ((by rw [hg]; exact (below_size y0_) : w.heap.size ≤ gb9919741)); have n3_ := a_ ((by rw [hg]; exact (below_size y0_) : w.heap.size ≤ gb9919741)); clear HB; have HB := n0_; have BK9919741 := n1_; have GW9919741 := n2_; have GE9919741 := n3_; clear n0_ n1_ n2_ n3_; clear hb hbox hg) | ((with_reducible refine gate_callee (f := 24) rfl ?_); refine gc_ 24 7 Try.func24 #[.slice A0 l0.length c0] ?_; (with_reducible refine (impl_ProcFault.calls k _ _ l0 tx0 _ ?side1 ?side2 Ax0.out).mono ?_); (case side1 => repeat (first | exact (Kd.C_below HR0.out HB.out) | (with_reducible refine Kd.C_alloc ?_ _) | (with_reducible refine Kd.C_drewN ?_ _) | (with_reducible refine Kd.C_drew ?_))); (case side2 => exact HC0.out); rintro e w9300017 ⟨rfl, hb⟩; refine ⟨_, rfl, ?_⟩; have n0_ := a_ (blk_below (g := gb9919741) (o := .cells #[.int .i64 0, .slice none 0 0] 29 (0, 0)) y24_ hb); have n1_ := a_ (below_step y11_ hb); clear BK9919741; clear HB; have BK9919741 := n0_; have HB := n1_; clear n0_ n1_; (try clear hb); (try clear hb9387618); (try clear hk); (try clear hi)) | ((with_reducible refine gate_callee (f := 77) rfl ?_); refine gc_ 77 11 Try.func77 #[.int .i64 a1, .int .i64 (l0.length : Int)] ?_; (with_reducible refine (impl_isPlace.calls a1 (l0.length : Int) tx1 _ Ax1.out).mono ?_); rintro e w' ⟨rfl, ⟨nd, rfl⟩⟩; refine ⟨_, rfl, ?_⟩; (try (rw [drewN_self w9300017]; generalize hq_ : World.drewN w9300017 _ = w9300017; have n0_ : Aside0 (w9300017.heap[gb9919741]? = some (.cells #[.int .i64 0, .slice none 0 0] 29 (0, 0))) := ⟨by rw [← hq_]; exact y24_⟩; have n1_ : Aside0 (Below w.heap.size w w9300017) := ⟨by rw [← hq_]; exact y11_⟩; clear BK9919741 HB hq_; have BK9919741 := n0_; have HB := n1_; clear n0_ n1_))) | ((with_reducible refine gate_callee (f := 76) rfl ?_); refine gc_ 76 13 Try.func76 #[.bool (!tx1), .int .i64 3] ?_; (with_reducible refine (impl_codeIf.calls (!tx1) 3 tx2 _ Ax2.out).mono ?_); rintro e w' ⟨rfl, ⟨nd, rfl⟩⟩; refine ⟨_, rfl, ?_⟩; (try (rw [drewN_self w9300017]; generalize hq_ : World.drewN w9300017 _ = w9300017; have n0_ : Aside0 (w9300017.heap[gb9919741]? = some (.cells #[.int .i64 0, .slice none 0 0] 29 (0, 0))) := ⟨by rw [← hq_]; exact y24_⟩; have n1_ : Aside0 (Below w.heap.size w w9300017) := ⟨by rw [← hq_]; exact y11_⟩; clear BK9919741 HB hq_; have BK9919741 := n0_; have HB := n1_; clear n0_ n1_))) | ((with_reducible refine gate_dst (N := 14) rfl ?_); refine Kd.R_lit (Kd.int .i64) _ 2 ?hg (N := 14) ?hd (xs := ([tx0, tx2] : List Int)) (inner := [.int .i64 tx0, .int .i64 tx2]) (ok := fun _ => True) (okp := fun _ => True) ?hr ?hp (fun _ hk => hk) trivial (Below.refl _ _) (Nat.le_refl _) y92_ ?_; (case hd => rfl); (case hg => rfl); (case hr => first | (go_simp; done) | (go_simp; rfl)); (case hp => exact (Reps.one (show Kd.M (Kd.int .i64) _ _ _ tx0 [.int .i64 tx0] from rfl) (Reps.one (show Kd.M (Kd.int .i64) _ _ _ tx2 [.int .i64 tx2] from rfl) (Reps.none _ _)))); intro v9123900 w9617141 ho9839185 hb hg_ hnew_; clear hg_ hnew_; (first | rw [← Ny654.out] at ho9839185 | (simp only [Int.reduceToNat] at ho9839185; rw [← Ny654.out] at ho9839185)); have n0_ := a_ (Kd.R_lower ho9839185 (below_size y11_)); have n1_ := a_ (blk_below (g := gb9919741) (o := .cells #[.int .i64 0, .slice none 0 0] 29 (0, 0)) y24_ hb); have n2_ := a_ (below_step y11_ hb); clear BK9919741; clear HB; have HO9991688 := n0_; have BK9919741 := n1_; have HB := n2_; clear n0_ n1_ n2_; clear hb ho9839185; obtain ⟨Ao9537002, co9537002, eo9537002⟩ := Kd.R_slice HO9991688.out; subst eo9537002) | (have mkq_ := m0_0; clear mkq_; (with_reducible refine gate_callee (f := 59) rfl ?_); refine gc_ 59 15 Try.func59 #[.slice Ao9537002 y654.length co9537002] ?_; (with_reducible refine (impl_firstCode.calls k _ _ y654 tx3 _ ?side1 ?side2 Ax3.out).mono ?_); (case side1 => repeat (first | exact (Kd.R_reads' HO9991688.out).2.2 | (with_reducible refine Kd.C_alloc ?_ _) | (with_reducible refine Kd.C_drewN ?_ _) | (with_reducible refine Kd.C_drew ?_))); (case side2 => exact (Kd.R_reads' HO9991688.out).2.1); rintro e w' ⟨rfl, ⟨nd, rfl⟩⟩; refine ⟨_, rfl, ?_⟩; (try (rw [drewN_self w9617141]; generalize hq_ : World.drewN w9617141 _ = w9617141; have n0_ : Aside0 (Kd.R (Kd.int .i64) 2 w9617141 w.heap.size (fun _ => True) (.slice Ao9537002 y654.length co9537002) y654) := ⟨by rw [← hq_]; exact y165_⟩; have n1_ : Aside0 (w9617141.heap[gb9919741]? = some (.cells #[.int .i64 0, .slice none 0 0] 29 (0, 0))) := ⟨by rw [← hq_]; exact y24_⟩; have n2_ : Aside0 (Below w.heap.size w w9617141) := ⟨by rw [← hq_]; exact y11_⟩; clear HO9991688 BK9919741 HB hq_; have HO9991688 := n0_; have BK9919741 := n1_; have HB := n2_; clear n0_ n1_ n2_))) | ((with_reducible refine gate_callee (f := 78) rfl ?_); refine gc_ 78 22 Try.func78 #[.slice A0 l0.length c0, .int .i64 a1] ?_; (with_reducible refine (impl_under.calls k _ _ l0 a1 tx5 _ ?side1 ?side2 Ax5.out).mono ?_); (case side1 => repeat (first | exact (Kd.C_below HR0.out HB.out) | (with_reducible refine Kd.C_alloc ?_ _) | (with_reducible refine Kd.C_drewN ?_ _) | (with_reducible refine Kd.C_drew ?_))); (case side2 => exact HC0.out); rintro e w9768322 ⟨v9993646, rfl, ho0, hb⟩; refine ⟨_, rfl, ?_⟩; have n0_ := a_ (Kd.R_elder' y165_ (Kd.R_base ho0) hb); have n1_ := a_ (Kd.R_lower (Kd.R_new' ho0 (Kd.R_lt y165_)) (below_size y11_)); have n2_ := a_ (blk_below (g := gb9919741) (o := .cells #[.int .i64 0, .slice none 0 0] 29 (0, 0)) y24_ hb); have n3_ := a_ (below_step y11_ hb); clear HO9991688; clear BK9919741; clear HB; have HO9991688 := n0_; have HO9189324 := n1_; have BK9919741 := n2_; have HB := n3_; clear n0_ n1_ n2_ n3_; (try clear hb); (try clear hb9387618); (try clear hk); (try clear hi); (try clear ho0); obtain ⟨Ao9007683, co9007683, eo9007683⟩ := Kd.R_slice HO9189324.out; subst eo9007683; have hcz9504755_0 : w9768322.cell? ⟨gb9919741, 0, none⟩ = some (.int .i64 0) := (blk_cell BK9919741.out 0).trans rfl; have hcz9504755_1 : w9768322.cell? ⟨gb9919741, 1, none⟩ = some (.slice none 0 0) := (blk_cell BK9919741.out 1).trans rfl; have hfz9504755_0 := blk_frozen BK9919741.out 0; have hfz9504755_1 := blk_frozen BK9919741.out 1) | (have mkq_ := m0_1; clear mkq_; (with_reducible refine gate_callee (f := 59) rfl ?_); refine gc_ 59 15 Try.func59 #[.slice Ao9537002 y654.length co9537002] ?_; (with_reducible refine (impl_firstCode.calls k _ _ y654 tx3 _ ?side1 ?side2 Ax3.out).mono ?_); (case side1 => repeat (first | exact (Kd.R_reads' HO9991688.out).2.2 | (with_reducible refine Kd.C_alloc ?_ _) | (with_reducible refine Kd.C_drewN ?_ _) | (with_reducible refine Kd.C_drew ?_))); (case side2 => exact (Kd.R_reads' HO9991688.out).2.1); rintro e w' ⟨rfl, ⟨nd, rfl⟩⟩; refine ⟨_, rfl, ?_⟩; (try (rw [drewN_self w9617141]; generalize hq_ : World.drewN w9617141 _ = w9617141; have n0_ : Aside0 (Kd.R (Kd.int .i64) 2 w9617141 w.heap.size (fun _ => True) (.slice Ao9537002 y654.length co9537002) y654) := ⟨by rw [← hq_]; exact y165_⟩; have n1_ : Aside0 (w9617141.heap[gb9919741]? = some (.cells #[.int .i64 0, .slice none 0 0] 29 (0, 0))) := ⟨by rw [← hq_]; exact y24_⟩; have n2_ : Aside0 (Below w.heap.size w w9617141) := ⟨by rw [← hq_]; exact y11_⟩; clear HO9991688 BK9919741 HB hq_; have HO9991688 := n0_; have BK9919741 := n1_; have HB := n2_; clear n0_ n1_ n2_)); have hcz9122784_0 : w9617141.cell? ⟨gb9919741, 0, none⟩ = some (.int .i64 0) := (blk_cell BK9919741.out 0).trans rfl; have hcz9122784_1 : w9617141.cell? ⟨gb9919741, 1, none⟩ = some (.slice none 0 0) := (blk_cell BK9919741.out 1).trans rfl; have hfz9122784_0 := blk_frozen BK9919741.out 0; have hfz9122784_1 := blk_frozen BK9919741.out 1))
  first
  | fail_if_success clear m0_2
  |(clear m0_2; refine bodyPost_ret (results_cell_row rfl _ _ gb9919741 29 #[.int .i64 0, .slice Ao9007683 tx5.length co9007683] (0, 0) _ rfl y117_ Try.underlying29 rfl y49_) rfl ?_; exact ⟨_, y3_, by (with_reducible repeat (first | apply Kd.R_alloc | apply Kd.R_drewN | apply Kd.R_drew)); exact Kd.R_mono (Kd.R_far (p := ⟨gb9919741, 1, none⟩) (Kd.R_far (p := ⟨gb9919741, 0, none⟩) (Kd.R_types HO9189324.out BK9919741.out y37_) (fun _ hk => hk.2) (.int .i64 0)) (fun _ hk => hk.2) (.slice Ao9007683 tx5.length co9007683)) (fun _ hk => trivial), y11_⟩)
  first
  | fail_if_success clear m0_3
  |(clear m0_3; refine bodyPost_ret (results_cell_row rfl _ _ gb9919741 29 #[.int .i64 tx3, .slice none 0 0] (0, 0) _ rfl (by (with_reducible repeat (first | refine blk_drewN ?_ _ | refine blk_drew ?_ | refine blk_alloc ?_ _)); refine blk_put (cs := #[.int .i64 tx3, .slice none 0 0]) ?_ 1 _ rfl; (with_reducible repeat (first | refine blk_drewN ?_ _ | refine blk_drew ?_ | refine blk_alloc ?_ _)); refine blk_put (cs := #[.int .i64 0, .slice none 0 0]) ?_ 0 _ rfl; (with_reducible repeat (first | refine blk_drewN ?_ _ | refine blk_drew ?_ | refine blk_alloc ?_ _)); exact BK9919741.out) Try.underlying29 rfl y49_) rfl ?_; exact ⟨_, y3_, y65_, y11_⟩))

end Go.Proofs.Ytcpcenhpmcfmjaa.L
