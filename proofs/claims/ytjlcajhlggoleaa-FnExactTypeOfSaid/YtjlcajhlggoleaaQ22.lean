-- Written by a program of this session's own (xp.py) for this seat.
import Derived.Test.YtjlcajhlggoleaaQ0
import Derived.Test.YtjlcajhlggoleaaQ6
namespace Go.Proofs.Ytjlcajhlggoleaa.Q
open Go.RowKit Go.Proofs.YtjlcajhlggoleaaW.PrintWords Go.Proofs.YtjlcajhlggoleaaW.PrintLast Go.Proofs.YtjlcajhlggoleaaW.PrintMore
attribute [local go_sem] max2_int min2_int max_two min_two max_three min_three max_four min_four   -- for this text's walks alone
set_option linter.unusedVariables false
set_option linter.unusedSimpArgs false

/-! ### spec_l3Types: function 105 -/
mutual
def spec_l3Types.l0 : Nat → List (S77) → List Int → Int → Option (List Int × Bool)
  | 0, _, _, _ => none
  | k + 1, x0, x4, x5 => if x5 < (x0.length : Int) then (if 0 ≤ x5 then (if ((rd_T77 x0 x5).f0) = 9 then (spec_l3Types.j1 k x0 x4 x5 1 1 true ((rd_T77 x0 x5).f0) ((rd_T77 x0 x5).f1) ((rd_T77 x0 x5).f2) ((rd_T77 x0 x5).f3)) else (spec_l3Types.j1 k x0 x4 x5 1 1 (((rd_T77 x0 x5).f0) == 10) ((rd_T77 x0 x5).f0) ((rd_T77 x0 x5).f1) ((rd_T77 x0 x5).f2) ((rd_T77 x0 x5).f3))) else (none)) else (some (x4, true))
def spec_l3Types.j1 : Nat → List (S77) → List Int → Int → Int → Int → Bool → Int → Int → Int → Int → Option (List Int × Bool)
  | 0, _, _, _, _, _, _, _, _, _, _ => none
  | k + 1, x0, x4, x5, x7, x8, x27, x392000, x392001, x392002, x392003 => if x27 = true then (spec_l3Types.j2 k x0 x4 x5 2 x8 x392000 x392001 x392002 x392003) else (spec_l3Types.j2 k x0 x4 x5 x7 x8 x392000 x392001 x392002 x392003)
def spec_l3Types.j2 : Nat → List (S77) → List Int → Int → Int → Int → Int → Int → Int → Int → Option (List Int × Bool)
  | 0, _, _, _, _, _, _, _, _, _ => none
  | k + 1, x0, x4, x5, x7, x8, x392000, x392001, x392002, x392003 => if x392000 ≥ 7 then (if x392000 > 2 then (if 0 ≤ x392002 then (if x392002 < (x4.length : Int) then (if (rd x4 x392002) = x7 then ((spec_l3Two.f x392000).bind fun t393 => (if t393 = true then (if 0 ≤ x392003 then (if x392003 < (x4.length : Int) then (if (rd x4 x392003) = x7 then (if x4.length < 17592186044416 then (spec_l3Types.l0 k x0 (x4 ++ [2]) (wrap64 (x5 + 1))) else (none)) else (some (([] : List Int), false))) else (none)) else (none)) else (if x4.length < 17592186044416 then (spec_l3Types.l0 k x0 (x4 ++ [2]) (wrap64 (x5 + 1))) else (none)))) else (some (([] : List Int), false))) else (none)) else (none)) else ((spec_l3Two.f x392000).bind fun t401 => (if t401 = true then (if 0 ≤ x392003 then (if x392003 < (x4.length : Int) then (if (rd x4 x392003) = x7 then (if x4.length < 17592186044416 then (spec_l3Types.l0 k x0 (x4 ++ [2]) (wrap64 (x5 + 1))) else (none)) else (some (([] : List Int), false))) else (none)) else (none)) else (if x4.length < 17592186044416 then (spec_l3Types.l0 k x0 (x4 ++ [2]) (wrap64 (x5 + 1))) else (none))))) else (if x392000 > 2 then (if 0 ≤ x392002 then (if x392002 < (x4.length : Int) then (if (rd x4 x392002) = x7 then ((spec_l3Two.f x392000).bind fun t410 => (if t410 = true then (if 0 ≤ x392003 then (if x392003 < (x4.length : Int) then (if (rd x4 x392003) = x7 then (if x4.length < 17592186044416 then (spec_l3Types.l0 k x0 (x4 ++ [x8]) (wrap64 (x5 + 1))) else (none)) else (some (([] : List Int), false))) else (none)) else (none)) else (if x4.length < 17592186044416 then (spec_l3Types.l0 k x0 (x4 ++ [x8]) (wrap64 (x5 + 1))) else (none)))) else (some (([] : List Int), false))) else (none)) else (none)) else ((spec_l3Two.f x392000).bind fun t418 => (if t418 = true then (if 0 ≤ x392003 then (if x392003 < (x4.length : Int) then (if (rd x4 x392003) = x7 then (if x4.length < 17592186044416 then (spec_l3Types.l0 k x0 (x4 ++ [x8]) (wrap64 (x5 + 1))) else (none)) else (some (([] : List Int), false))) else (none)) else (none)) else (if x4.length < 17592186044416 then (spec_l3Types.l0 k x0 (x4 ++ [x8]) (wrap64 (x5 + 1))) else (none)))))
end
def spec_l3Types.f (k : Nat) (l0 : List (S77)) : Option (List Int × Bool) := spec_l3Types.l0 k l0 (([] : List Int)) 0
theorem spec_l3Types.mono_l : ∀ k, (∀ y0 y1 y2, LeO (spec_l3Types.l0 k y0 y1 y2) (spec_l3Types.l0 (k + 1) y0 y1 y2)) ∧ (∀ y0 y1 y2 y3 y4 y5 y6 y7 y8 y9, LeO (spec_l3Types.j1 k y0 y1 y2 y3 y4 y5 y6 y7 y8 y9) (spec_l3Types.j1 (k + 1) y0 y1 y2 y3 y4 y5 y6 y7 y8 y9)) ∧ (∀ y0 y1 y2 y3 y4 y5 y6 y7 y8, LeO (spec_l3Types.j2 k y0 y1 y2 y3 y4 y5 y6 y7 y8) (spec_l3Types.j2 (k + 1) y0 y1 y2 y3 y4 y5 y6 y7 y8))
  | 0 => ⟨fun _ _ _ r h => by simp [spec_l3Types.l0] at h, fun _ _ _ _ _ _ _ _ _ _ r h => by simp [spec_l3Types.j1] at h, fun _ _ _ _ _ _ _ _ _ r h => by simp [spec_l3Types.j2] at h⟩
  | k + 1 => by
    obtain ⟨ih0, ih1, ih2⟩ := spec_l3Types.mono_l k
    refine ⟨?_, ?_, ?_⟩
    · intro y0 y1 y2
      unfold spec_l3Types.l0
      repeat' first
      | (with_reducible exact ih0 _ _ _)
      | (with_reducible exact ih1 _ _ _ _ _ _ _ _ _ _)
      | (with_reducible exact ih2 _ _ _ _ _ _ _ _ _)
      | (with_reducible exact LeO.refl _)
      | (with_reducible exact LeO.none _)
      | (with_reducible refine LeO.ite ?_ ?_)
      | (with_reducible refine LeO.bind ?_ (fun _ => ?_))
      | exact ih0 _ _ _
      | exact ih1 _ _ _ _ _ _ _ _ _ _
      | exact ih2 _ _ _ _ _ _ _ _ _
      | exact LeO.none _
      | refine LeO.ite ?_ ?_
      | refine LeO.bind ?_ (fun _ => ?_)
    · intro y0 y1 y2 y3 y4 y5 y6 y7 y8 y9
      unfold spec_l3Types.j1
      repeat' first
      | (with_reducible exact ih0 _ _ _)
      | (with_reducible exact ih1 _ _ _ _ _ _ _ _ _ _)
      | (with_reducible exact ih2 _ _ _ _ _ _ _ _ _)
      | (with_reducible exact LeO.refl _)
      | (with_reducible exact LeO.none _)
      | (with_reducible refine LeO.ite ?_ ?_)
      | (with_reducible refine LeO.bind ?_ (fun _ => ?_))
      | exact ih0 _ _ _
      | exact ih1 _ _ _ _ _ _ _ _ _ _
      | exact ih2 _ _ _ _ _ _ _ _ _
      | exact LeO.none _
      | refine LeO.ite ?_ ?_
      | refine LeO.bind ?_ (fun _ => ?_)
    · intro y0 y1 y2 y3 y4 y5 y6 y7 y8
      unfold spec_l3Types.j2
      repeat' first
      | (with_reducible exact ih0 _ _ _)
      | (with_reducible exact ih1 _ _ _ _ _ _ _ _ _ _)
      | (with_reducible exact ih2 _ _ _ _ _ _ _ _ _)
      | (with_reducible exact LeO.refl _)
      | (with_reducible exact LeO.none _)
      | (with_reducible refine LeO.ite ?_ ?_)
      | (with_reducible refine LeO.bind ?_ (fun _ => ?_))
      | exact ih0 _ _ _
      | exact ih1 _ _ _ _ _ _ _ _ _ _
      | exact ih2 _ _ _ _ _ _ _ _ _
      | exact LeO.none _
      | refine LeO.ite ?_ ?_
      | refine LeO.bind ?_ (fun _ => ?_)
theorem spec_l3Types.mono : ∀ a0 k, LeO (spec_l3Types.f k a0) (spec_l3Types.f (k + 1) a0) := by
  intro a0 k
  obtain ⟨ih0, ih1, ih2⟩ := spec_l3Types.mono_l k
  unfold spec_l3Types.f
  repeat' first
      | (with_reducible exact ih0 _ _ _)
      | (with_reducible exact ih1 _ _ _ _ _ _ _ _ _ _)
      | (with_reducible exact ih2 _ _ _ _ _ _ _ _ _)
      | (with_reducible exact LeO.refl _)
      | (with_reducible exact LeO.none _)
      | (with_reducible refine LeO.ite ?_ ?_)
      | (with_reducible refine LeO.bind ?_ (fun _ => ?_))
      | exact ih0 _ _ _
      | exact ih1 _ _ _ _ _ _ _ _ _ _
      | exact ih2 _ _ _ _ _ _ _ _ _
      | exact LeO.none _
      | refine LeO.ite ?_ ?_
      | refine LeO.bind ?_ (fun _ => ?_)
set_option maxHeartbeats 8000000 in
set_option maxRecDepth 100000 in
theorem spec_l3Types.calls (k : Nat) (A0 : Option Addr) (c0 : Nat) (l0 : List (S77)) (r1 : List Int) (r2 : Bool) (w : World) (hr0 : Kd.C k77 w A0 l0.length l0) (hc0 : l0.length ≤ c0) (h : spec_l3Types.f k l0 = some (r1, r2)) :
    Calls Try.prog 105 #[.slice A0 l0.length c0] w fun e w' => ∃ v0_ : Value, e = .returned (.tuple #[v0_, .bool r2]) ∧ Kd.R (Kd.int .i64) 2 w' w.heap.size (fun _ => True) v0_ r1 ∧ Below w.heap.size w w' := by
  have hu77 := Try.underlying77
  have HR0 := Aside0.mk hr0
  have HC0 := Aside0.mk hc0
  clear hr0 hc0
  have HB := Aside0.mk (Below.refl w.heap.size w)
  have H : (spec_l3Types.l0 k l0 (([] : List Int)) 0) = some (r1, r2) := h
  clear h
  obtain ⟨y387, hy387⟩ : ∃ y_ : List Int, y_ = (([] : List Int)) := ⟨_, rfl⟩
  replace H : (spec_l3Types.l0 k l0 y387 0) = some (r1, r2) := by first | (rw [hy387]; with_reducible exact H) | (have H2_ := (Option.bind_some _ _).symm.trans H; rw [hy387]; with_reducible exact H2_) | (have H2_ := (Option.bind_some _ _).symm.trans H; with_reducible exact H2_) | with_reducible exact H | (rw [hy387]; exact H) | exact H
  have Ny387 := Aside0.mk hy387
  clear hy387
  have H' := Aside0.mk H
  clear H
  go_enter Try.func105, Try.ntmps105
  go_wp2_with (first | ((with_reducible refine gate_dst (N := 9) rfl ?_); refine Kd.R_lit (Kd.int .i64) _ 2 ?hg (N := 9) ?hd (xs := ([] : List Int)) (inner := []) (ok := fun _ => True) (okp := fun _ => True) ?hr ?hp (fun _ hk => hk) trivial (Below.refl _ _) (Nat.le_refl _) (by simp) ?_; (case hd => rfl); (case hg => rfl); (case hr => first | (go_simp; done) | (go_simp; rfl)); (case hp => exact (Reps.none _ _)); intro v388 w2 ho3 hb hg_ hnew_; clear hg_ hnew_; (first | rw [← Ny387.out] at ho3 | (simp only [Int.reduceToNat] at ho3; rw [← Ny387.out] at ho3)); have n0_ := Aside0.mk (Kd.R_lower ho3 (below_size (by repeat (first | (with_reducible first | exact HB.out | apply below_alloc | apply pw_below_drewN | apply below_drew1) | exact HB.out)))); have n1_ := Aside0.mk (below_step (by repeat (first | (with_reducible first | exact HB.out | apply below_alloc | apply pw_below_drewN | apply below_drew1) | exact HB.out)) hb); clear HB; have HO389 := n0_; have HB := n1_; clear n0_ n1_; clear hb ho3))
  go_loopg [4, 5] k (fun kq v4 v5 w' => ∃ (x4_1 : List Int) (x5_1 : Int), v5 = .int .i64 x5_1 ∧ Aside0 (spec_l3Types.l0 kq l0 x4_1 x5_1 = some (r1, r2)) ∧ Aside0 (kq ≤ k) ∧ Aside0 (Kd.R (Kd.int .i64) 2 w' w.heap.size (fun _ => True) v4 x4_1) ∧ Aside0 (Below w.heap.size w w'))
  case atStart => exact ⟨(y387), (0), (by first | rfl | (simp; done) | (simp [*]; done)), H', ⟨Nat.le_refl _⟩, ⟨by (with_reducible repeat (first | apply Kd.R_alloc | apply Kd.R_drewN | apply Kd.R_drew)); exact HO389.out⟩, ⟨by repeat (first | (with_reducible first | exact HB.out | apply below_alloc | apply pw_below_drewN | apply below_drew1) | exact HB.out)⟩⟩
  case round =>
    clear H'
    try clear c1
    try clear p2
    obtain ⟨x4_1, x5_1, rfl, HA, HK1, HO_4, HB⟩ := hrel
    cases gk with
    | zero => exact absurd HA.out (by simp [spec_l3Types.l0])
    | succ k1 =>
      have H := HA.out
      clear HA
      simp only [spec_l3Types.l0] at H
      by_cases c4 : x5_1 < (l0.length : Int)
      · rw [if_pos c4] at H
        have c4b0 : decide (x5_1 < (l0.length : Int)) = true := decide_eq_true c4
        clear c4
        by_cases c5 : 0 ≤ x5_1
        · rw [if_pos c5] at H
          have c5b0 : decide (0 ≤ x5_1) = true := decide_eq_true c5
          clear c5
          have HC6 := Aside0.mk H
          clear H
          have p390 : 0 ≤ (x5_1 : Int) := of_decide_eq_true (by first | (with_reducible assumption) | assumption)
          have q390 : x5_1 < (l0.length : Int) := of_decide_eq_true (by first | (with_reducible assumption) | assumption)
          obtain ⟨ad390, e390, hx390_0, hx390_1, hx390_2, hx390_3⟩ := at_T77 HR0.out x5_1 p390 q390
          cases e390
          replace hx390_0 := (HB.out.cell (World.block_lt_of_cell? w _ hx390_0)).trans hx390_0
          replace hx390_1 := (HB.out.cell (World.block_lt_of_cell? w _ hx390_1)).trans hx390_1
          replace hx390_2 := (HB.out.cell (World.block_lt_of_cell? w _ hx390_2)).trans hx390_2
          replace hx390_3 := (HB.out.cell (World.block_lt_of_cell? w _ hx390_3)).trans hx390_3
          replace p390 := eq_true p390
          replace q390 := eq_true q390
          go_upto_region 8 with (first | ((with_reducible refine gate_dst (N := 6) rfl ?_); refine box_event ?hg (N := 6) ?hd (cs := #[.int .i64 0, .int .i64 0, .int .i64 0, .int .i64 0]) (t := 77) ?hr ?_; (case hd => rfl); (case hg => rfl); (case hr => first | (go_simp; done) | (go_simp; rfl)); intro gb391 hg w7 hbox hb; have n0_ := Aside0.mk (Kd.R_below (by (with_reducible repeat (first | apply Kd.R_alloc | apply Kd.R_drewN | apply Kd.R_drew)); exact HO_4.out) hb); have n1_ := Aside0.mk (below_step (by repeat (first | (with_reducible first | exact HB.out | apply below_alloc | apply pw_below_drewN | apply below_drew1) | exact HB.out)) hb); have n2_ := Aside0.mk (hbox); have n3_ := Aside0.mk ((by rw [hg]; exact (below_size (by repeat (first | (with_reducible first | exact HB.out | apply below_alloc | apply pw_below_drewN | apply below_drew1) | exact HB.out))) : w.heap.size ≤ gb391)); have n4_ := Aside0.mk ((by rw [hg]; exact (below_size (by repeat (first | (with_reducible first | exact HB.out | apply below_alloc | apply pw_below_drewN | apply below_drew1) | exact HB.out))) : w.heap.size ≤ gb391)); clear HO_4; clear HB; have HO_4 := n0_; have HB := n1_; have BK391 := n2_; have GW391 := n3_; have GE391 := n4_; clear n0_ n1_ n2_ n3_ n4_; clear hb hbox hg; have hcz8_0 : w7.cell? ⟨gb391, 0, none⟩ = some (.int .i64 0) := (blk_cell BK391.out 0).trans rfl; have hcz8_1 : w7.cell? ⟨gb391, 1, none⟩ = some (.int .i64 0) := (blk_cell BK391.out 1).trans rfl; have hcz8_2 : w7.cell? ⟨gb391, 2, none⟩ = some (.int .i64 0) := (blk_cell BK391.out 2).trans rfl; have hcz8_3 : w7.cell? ⟨gb391, 3, none⟩ = some (.int .i64 0) := (blk_cell BK391.out 3).trans rfl; have hfz8_0 := blk_frozen BK391.out 0; have hfz8_1 := blk_frozen BK391.out 1; have hfz8_2 := blk_frozen BK391.out 2; have hfz8_3 := blk_frozen BK391.out 3))
          (try simp only [Act.put, List.setIfInBounds_toArray, List.set_cons_zero, List.set_cons_succ])
          go_cut [27] (fun v27 wc => ∃ (kq : Nat) (x27_5 : Bool), v27 = .bool x27_5 ∧ Aside0 (spec_l3Types.j1 kq l0 x4_1 x5_1 1 1 x27_5 ((rd_T77 l0 x5_1).f0) ((rd_T77 l0 x5_1).f1) ((rd_T77 l0 x5_1).f2) ((rd_T77 l0 x5_1).f3) = some (r1, r2)) ∧ Aside0 (kq ≤ k1) ∧ Aside0 (Kd.R (Kd.int .i64) 2 wc w.heap.size (fun _ => True) u4 x4_1) ∧ Aside0 (wc.heap[gb391]? = some (.cells #[.int .i64 ((rd_T77 l0 x5_1).f0), .int .i64 ((rd_T77 l0 x5_1).f1), .int .i64 ((rd_T77 l0 x5_1).f2), .int .i64 ((rd_T77 l0 x5_1).f3)] 77 (0, 0))) ∧ Aside0 (Below w.heap.size w wc))
          case first =>
            have H := HC6.out
            clear HC6
            by_cases c9 : ((rd_T77 l0 x5_1).f0) = 9
            · rw [if_pos c9] at H
              have c9b0 : (((rd_T77 l0 x5_1).f0) == 9) = true := beq_iff_eq.mpr c9
              have c9b1 : (((rd_T77 l0 x5_1).f0) != 9) = false := bne_eq_false_iff_eq.mpr c9
              clear c9
              (first | rw [c9b0] | (simp only [i64_w, i32_w]; rw [c9b0]) | skip)
              have H' := Aside0.mk H
              clear H
              have hcz10_0 : w7.cell? ⟨gb391, 0, none⟩ = some (.int .i64 0) := (blk_cell BK391.out 0).trans rfl
              have hcz10_1 : w7.cell? ⟨gb391, 1, none⟩ = some (.int .i64 0) := (blk_cell BK391.out 1).trans rfl
              have hcz10_2 : w7.cell? ⟨gb391, 2, none⟩ = some (.int .i64 0) := (blk_cell BK391.out 2).trans rfl
              have hcz10_3 : w7.cell? ⟨gb391, 3, none⟩ = some (.int .i64 0) := (blk_cell BK391.out 3).trans rfl
              have hfz10_0 := blk_frozen BK391.out 0
              have hfz10_1 := blk_frozen BK391.out 1
              have hfz10_2 := blk_frozen BK391.out 2
              have hfz10_3 := blk_frozen BK391.out 3
              go_wp2
              go_meet
              case rel => exact ⟨_, (true), (by first | rfl | (simp; done) | (simp [*]; done)), H', ⟨by have := HK1.out; first | omega | exact Nat.le_refl _⟩, ⟨by (with_reducible repeat (first | apply Kd.R_alloc | apply Kd.R_drewN | apply Kd.R_drew)); exact Kd.R_mono (Kd.R_far (p := ⟨gb391, 3, none⟩) (Kd.R_far (p := ⟨gb391, 2, none⟩) (Kd.R_far (p := ⟨gb391, 1, none⟩) (Kd.R_far (p := ⟨gb391, 0, none⟩) (Kd.R_types HO_4.out BK391.out (by decide)) (fun _ hk => hk.2) (.int .i64 ((rd_T77 l0 x5_1).f0))) (fun _ hk => hk.2) (.int .i64 ((rd_T77 l0 x5_1).f1))) (fun _ hk => hk.2) (.int .i64 ((rd_T77 l0 x5_1).f2))) (fun _ hk => hk.2) (.int .i64 ((rd_T77 l0 x5_1).f3))) (fun _ hk => trivial)⟩, ⟨by (with_reducible repeat (first | refine blk_drewN ?_ _ | refine blk_drew ?_ | refine blk_alloc ?_ _)); refine blk_put (cs := #[.int .i64 ((rd_T77 l0 x5_1).f0), .int .i64 ((rd_T77 l0 x5_1).f1), .int .i64 ((rd_T77 l0 x5_1).f2), .int .i64 0]) ?_ 3 _ rfl; (with_reducible repeat (first | refine blk_drewN ?_ _ | refine blk_drew ?_ | refine blk_alloc ?_ _)); refine blk_put (cs := #[.int .i64 ((rd_T77 l0 x5_1).f0), .int .i64 ((rd_T77 l0 x5_1).f1), .int .i64 0, .int .i64 0]) ?_ 2 _ rfl; (with_reducible repeat (first | refine blk_drewN ?_ _ | refine blk_drew ?_ | refine blk_alloc ?_ _)); refine blk_put (cs := #[.int .i64 ((rd_T77 l0 x5_1).f0), .int .i64 0, .int .i64 0, .int .i64 0]) ?_ 1 _ rfl; (with_reducible repeat (first | refine blk_drewN ?_ _ | refine blk_drew ?_ | refine blk_alloc ?_ _)); refine blk_put (cs := #[.int .i64 0, .int .i64 0, .int .i64 0, .int .i64 0]) ?_ 0 _ rfl; (with_reducible repeat (first | refine blk_drewN ?_ _ | refine blk_drew ?_ | refine blk_alloc ?_ _)); exact BK391.out⟩, ⟨by repeat (first | (with_reducible first | exact HB.out | apply below_alloc | apply pw_below_drewN | apply below_drew1 | refine below_set ?_ GE391.out) | exact HB.out)⟩⟩
            · rw [if_neg c9] at H
              have c9b0 : (((rd_T77 l0 x5_1).f0) == 9) = false := beq_eq_false_iff_ne.mpr c9
              have c9b1 : (((rd_T77 l0 x5_1).f0) != 9) = true := bne_iff_ne.mpr c9
              (first | rw [c9b0] | (simp only [i64_w, i32_w]; rw [c9b0]) | skip)
              have H' := Aside0.mk H
              clear H
              have hcz11_0 : w7.cell? ⟨gb391, 0, none⟩ = some (.int .i64 0) := (blk_cell BK391.out 0).trans rfl
              have hcz11_1 : w7.cell? ⟨gb391, 1, none⟩ = some (.int .i64 0) := (blk_cell BK391.out 1).trans rfl
              have hcz11_2 : w7.cell? ⟨gb391, 2, none⟩ = some (.int .i64 0) := (blk_cell BK391.out 2).trans rfl
              have hcz11_3 : w7.cell? ⟨gb391, 3, none⟩ = some (.int .i64 0) := (blk_cell BK391.out 3).trans rfl
              have hfz11_0 := blk_frozen BK391.out 0
              have hfz11_1 := blk_frozen BK391.out 1
              have hfz11_2 := blk_frozen BK391.out 2
              have hfz11_3 := blk_frozen BK391.out 3
              go_wp2
              go_meet
              case rel => exact ⟨_, ((((rd_T77 l0 x5_1).f0) == 10)), (by first | rfl | (simp; done) | (simp [*]; done)), H', ⟨by have := HK1.out; first | omega | exact Nat.le_refl _⟩, ⟨by (with_reducible repeat (first | apply Kd.R_alloc | apply Kd.R_drewN | apply Kd.R_drew)); exact Kd.R_mono (Kd.R_far (p := ⟨gb391, 3, none⟩) (Kd.R_far (p := ⟨gb391, 2, none⟩) (Kd.R_far (p := ⟨gb391, 1, none⟩) (Kd.R_far (p := ⟨gb391, 0, none⟩) (Kd.R_types HO_4.out BK391.out (by decide)) (fun _ hk => hk.2) (.int .i64 ((rd_T77 l0 x5_1).f0))) (fun _ hk => hk.2) (.int .i64 ((rd_T77 l0 x5_1).f1))) (fun _ hk => hk.2) (.int .i64 ((rd_T77 l0 x5_1).f2))) (fun _ hk => hk.2) (.int .i64 ((rd_T77 l0 x5_1).f3))) (fun _ hk => trivial)⟩, ⟨by (with_reducible repeat (first | refine blk_drewN ?_ _ | refine blk_drew ?_ | refine blk_alloc ?_ _)); refine blk_put (cs := #[.int .i64 ((rd_T77 l0 x5_1).f0), .int .i64 ((rd_T77 l0 x5_1).f1), .int .i64 ((rd_T77 l0 x5_1).f2), .int .i64 0]) ?_ 3 _ rfl; (with_reducible repeat (first | refine blk_drewN ?_ _ | refine blk_drew ?_ | refine blk_alloc ?_ _)); refine blk_put (cs := #[.int .i64 ((rd_T77 l0 x5_1).f0), .int .i64 ((rd_T77 l0 x5_1).f1), .int .i64 0, .int .i64 0]) ?_ 2 _ rfl; (with_reducible repeat (first | refine blk_drewN ?_ _ | refine blk_drew ?_ | refine blk_alloc ?_ _)); refine blk_put (cs := #[.int .i64 ((rd_T77 l0 x5_1).f0), .int .i64 0, .int .i64 0, .int .i64 0]) ?_ 1 _ rfl; (with_reducible repeat (first | refine blk_drewN ?_ _ | refine blk_drew ?_ | refine blk_alloc ?_ _)); refine blk_put (cs := #[.int .i64 0, .int .i64 0, .int .i64 0, .int .i64 0]) ?_ 0 _ rfl; (with_reducible repeat (first | refine blk_drewN ?_ _ | refine blk_drew ?_ | refine blk_alloc ?_ _)); exact BK391.out⟩, ⟨by repeat (first | (with_reducible first | exact HB.out | apply below_alloc | apply pw_below_drewN | apply below_drew1 | refine below_set ?_ GE391.out) | exact HB.out)⟩⟩
          case rest =>
            clear HC6
            try clear c1
            try clear p2
            try clear p3
            try clear q3
            try clear hx3
            try clear c4
            try clear c4b0
            try clear c5
            try clear c5b0
            try clear c9
            try clear c9b0
            try clear c9b1
            try clear c10
            try clear hcz10_0
            try clear hcz10_1
            try clear hcz10_2
            try clear hcz10_3
            try clear hcz11_0
            try clear hcz11_1
            try clear hcz11_2
            try clear hcz11_3
            try clear hcz8_0
            try clear hcz8_1
            try clear hcz8_2
            try clear hcz8_3
            try clear hfz10_0
            try clear hfz10_1
            try clear hfz10_2
            try clear hfz10_3
            try clear hfz11_0
            try clear hfz11_1
            try clear hfz11_2
            try clear hfz11_3
            try clear hfz8_0
            try clear hfz8_1
            try clear hfz8_2
            try clear hfz8_3
            try clear hx390_0
            try clear hx390_1
            try clear hx390_2
            try clear hx390_3
            try clear p2
            try clear p390
            try clear q390
            obtain ⟨kq, x27_5, rfl, HA, HJ5, HO_4, BK391, HB⟩ := hcut
            cases kq with
            | zero => exact absurd HA.out (by simp [spec_l3Types.j1])
            | succ kj5 =>
              have H := HA.out
              clear HA
              simp only [spec_l3Types.j1] at H
              have HC12 := Aside0.mk H
              clear H
              go_upto_if 27 with (fail)
              go_cut [7] (fun v7 wc => ∃ (kq : Nat) (x7_11 : Int), v7 = .int .i64 x7_11 ∧ Aside0 (spec_l3Types.j2 kq l0 x4_1 x5_1 x7_11 1 ((rd_T77 l0 x5_1).f0) ((rd_T77 l0 x5_1).f1) ((rd_T77 l0 x5_1).f2) ((rd_T77 l0 x5_1).f3) = some (r1, r2)) ∧ Aside0 (kq ≤ kj5) ∧ Aside0 (Kd.R (Kd.int .i64) 2 wc w.heap.size (fun _ => True) u4 x4_1) ∧ Aside0 (wc.heap[gb391]? = some (.cells #[.int .i64 ((rd_T77 l0 x5_1).f0), .int .i64 ((rd_T77 l0 x5_1).f1), .int .i64 ((rd_T77 l0 x5_1).f2), .int .i64 ((rd_T77 l0 x5_1).f3)] 77 (0, 0))) ∧ Aside0 (Below w.heap.size w wc))
              case first =>
                have H := HC12.out
                clear HC12
                by_cases c13 : x27_5 = true
                · subst c13
                  have H1 : (spec_l3Types.j2 kj5 l0 x4_1 x5_1 2 1 ((rd_T77 l0 x5_1).f0) ((rd_T77 l0 x5_1).f1) ((rd_T77 l0 x5_1).f2) ((rd_T77 l0 x5_1).f3)) = some (r1, r2) := by rw [if_pos rfl] at H; exact H
                  clear H
                  have H := H1
                  clear H1
                  have H' := Aside0.mk H
                  clear H
                  go_wp2
                  go_meet
                  case rel => exact ⟨_, (2), (by first | rfl | (simp; done) | (simp [*]; done)), H', ⟨by have := HK1.out; have := HJ5.out; first | omega | exact Nat.le_refl _⟩, ⟨by (with_reducible repeat (first | apply Kd.R_alloc | apply Kd.R_drewN | apply Kd.R_drew)); exact HO_4.out⟩, ⟨by (with_reducible repeat (first | refine blk_drewN ?_ _ | refine blk_drew ?_ | refine blk_alloc ?_ _)); exact BK391.out⟩, ⟨by repeat (first | (with_reducible first | exact HB.out | apply below_alloc | apply pw_below_drewN | apply below_drew1 | refine below_set ?_ GE391.out) | exact HB.out)⟩⟩
                · replace c13 := Bool.eq_false_iff.mpr c13
                  subst c13
                  have H1 : (spec_l3Types.j2 kj5 l0 x4_1 x5_1 1 1 ((rd_T77 l0 x5_1).f0) ((rd_T77 l0 x5_1).f1) ((rd_T77 l0 x5_1).f2) ((rd_T77 l0 x5_1).f3)) = some (r1, r2) := by rw [if_neg (show ¬ (false = true) by decide)] at H; exact H
                  clear H
                  have H := H1
                  clear H1
                  have H' := Aside0.mk H
                  clear H
                  go_wp2
                  go_meet
                  case rel => exact ⟨_, (1), (by first | rfl | (simp; done) | (simp [*]; done)), H', ⟨by have := HK1.out; have := HJ5.out; first | omega | exact Nat.le_refl _⟩, ⟨by (with_reducible repeat (first | apply Kd.R_alloc | apply Kd.R_drewN | apply Kd.R_drew)); exact HO_4.out⟩, ⟨by (with_reducible repeat (first | refine blk_drewN ?_ _ | refine blk_drew ?_ | refine blk_alloc ?_ _)); exact BK391.out⟩, ⟨by repeat (first | (with_reducible first | exact HB.out | apply below_alloc | apply pw_below_drewN | apply below_drew1 | refine below_set ?_ GE391.out) | exact HB.out)⟩⟩
              case rest =>
                clear HC12
                try clear c1
                try clear p2
                try clear p3
                try clear q3
                try clear hx3
                try clear c4
                try clear c4b0
                try clear c5
                try clear c5b0
                try clear c9
                try clear c9b0
                try clear c9b1
                try clear c10
                try clear c13
                try clear hcz10_0
                try clear hcz10_1
                try clear hcz10_2
                try clear hcz10_3
                try clear hcz11_0
                try clear hcz11_1
                try clear hcz11_2
                try clear hcz11_3
                try clear hcz8_0
                try clear hcz8_1
                try clear hcz8_2
                try clear hcz8_3
                try clear hfz10_0
                try clear hfz10_1
                try clear hfz10_2
                try clear hfz10_3
                try clear hfz11_0
                try clear hfz11_1
                try clear hfz11_2
                try clear hfz11_3
                try clear hfz8_0
                try clear hfz8_1
                try clear hfz8_2
                try clear hfz8_3
                try clear hx390_0
                try clear hx390_1
                try clear hx390_2
                try clear hx390_3
                try clear p2
                try clear p3
                try clear p390
                try clear q3
                try clear q390
                obtain ⟨kq, x7_11, rfl, HA, HJ11, HO_4, BK391, HB⟩ := hcut
                cases kq with
                | zero => exact absurd HA.out (by simp [spec_l3Types.j2])
                | succ kj11 =>
                  have H := HA.out
                  clear HA
                  simp only [spec_l3Types.j2] at H
                  by_cases c14 : ((rd_T77 l0 x5_1).f0) ≥ 7
                  · rw [if_pos c14] at H
                    have c14b0 : decide (7 ≤ ((rd_T77 l0 x5_1).f0)) = true := decide_eq_true c14
                    clear c14
                    by_cases c15 : ((rd_T77 l0 x5_1).f0) > 2
                    · rw [if_pos c15] at H
                      have c15b0 : decide (2 < ((rd_T77 l0 x5_1).f0)) = true := decide_eq_true c15
                      clear c15
                      by_cases c16 : 0 ≤ ((rd_T77 l0 x5_1).f2)
                      · rw [if_pos c16] at H
                        have c16b0 : decide (0 ≤ ((rd_T77 l0 x5_1).f2)) = true := decide_eq_true c16
                        clear c16
                        by_cases c17 : ((rd_T77 l0 x5_1).f2) < (x4_1.length : Int)
                        · rw [if_pos c17] at H
                          have c17b0 : decide (((rd_T77 l0 x5_1).f2) < (x4_1.length : Int)) = true := decide_eq_true c17
                          clear c17
                          by_cases c18 : (rd x4_1 ((rd_T77 l0 x5_1).f2)) = x7_11
                          · rw [if_pos c18] at H
                            have c18b0 : ((rd x4_1 ((rd_T77 l0 x5_1).f2)) == x7_11) = true := beq_iff_eq.mpr c18
                            have c18b1 : ((rd x4_1 ((rd_T77 l0 x5_1).f2)) != x7_11) = false := bne_eq_false_iff_eq.mpr c18
                            clear c18
                            replace H := Option.bind_eq_some_iff.mp H
                            obtain ⟨t393, A190, H⟩ := H
                            replace H : (if t393 = true then (if 0 ≤ ((rd_T77 l0 x5_1).f3) then (if ((rd_T77 l0 x5_1).f3) < (x4_1.length : Int) then (if (rd x4_1 ((rd_T77 l0 x5_1).f3)) = x7_11 then (if x4_1.length < 17592186044416 then (spec_l3Types.l0 kj11 l0 (x4_1 ++ [2]) (wrap64 (x5_1 + 1))) else (none)) else (some (([] : List Int), false))) else (none)) else (none)) else (if x4_1.length < 17592186044416 then (spec_l3Types.l0 kj11 l0 (x4_1 ++ [2]) (wrap64 (x5_1 + 1))) else (none))) = some (r1, r2) := H
                            have A19 := Aside0.mk A190
                            clear A190
                            by_cases c20 : t393 = true
                            · subst c20
                              have H1 : (if 0 ≤ ((rd_T77 l0 x5_1).f3) then (if ((rd_T77 l0 x5_1).f3) < (x4_1.length : Int) then (if (rd x4_1 ((rd_T77 l0 x5_1).f3)) = x7_11 then (if x4_1.length < 17592186044416 then (spec_l3Types.l0 kj11 l0 (x4_1 ++ [2]) (wrap64 (x5_1 + 1))) else (none)) else (some (([] : List Int), false))) else (none)) else (none)) = some (r1, r2) := by rw [if_pos rfl] at H; exact H
                              clear H
                              have H := H1
                              clear H1
                              by_cases c21 : 0 ≤ ((rd_T77 l0 x5_1).f3)
                              · rw [if_pos c21] at H
                                have c21b0 : decide (0 ≤ ((rd_T77 l0 x5_1).f3)) = true := decide_eq_true c21
                                clear c21
                                by_cases c22 : ((rd_T77 l0 x5_1).f3) < (x4_1.length : Int)
                                · rw [if_pos c22] at H
                                  have c22b0 : decide (((rd_T77 l0 x5_1).f3) < (x4_1.length : Int)) = true := decide_eq_true c22
                                  clear c22
                                  by_cases c23 : (rd x4_1 ((rd_T77 l0 x5_1).f3)) = x7_11
                                  · rw [if_pos c23] at H
                                    have c23b0 : ((rd x4_1 ((rd_T77 l0 x5_1).f3)) == x7_11) = true := beq_iff_eq.mpr c23
                                    have c23b1 : ((rd x4_1 ((rd_T77 l0 x5_1).f3)) != x7_11) = false := bne_eq_false_iff_eq.mpr c23
                                    clear c23
                                    by_cases c24 : x4_1.length < 17592186044416
                                    · rw [if_pos c24] at H
                                      have LMc24 := Aside0.mk c24
                                      clear c24
                                      obtain ⟨y395, hy395⟩ : ∃ y_ : List Int, y_ = (x4_1 ++ [2]) := ⟨_, rfl⟩
                                      replace H : (spec_l3Types.l0 kj11 l0 y395 (wrap64 (x5_1 + 1))) = some (r1, r2) := by first | (rw [hy395]; with_reducible exact H) | (have H2_ := (Option.bind_some _ _).symm.trans H; rw [hy395]; with_reducible exact H2_) | (have H2_ := (Option.bind_some _ _).symm.trans H; with_reducible exact H2_) | with_reducible exact H | (rw [hy395]; exact H) | exact H
                                      have Ny395 := Aside0.mk hy395
                                      clear hy395
                                      have H' := Aside0.mk H
                                      clear H
                                      have hcz25_0 : wc.cell? ⟨gb391, 0, none⟩ = some (.int .i64 ((rd_T77 l0 x5_1).f0)) := (blk_cell BK391.out 0).trans rfl
                                      have hcz25_1 : wc.cell? ⟨gb391, 1, none⟩ = some (.int .i64 ((rd_T77 l0 x5_1).f1)) := (blk_cell BK391.out 1).trans rfl
                                      have hcz25_2 : wc.cell? ⟨gb391, 2, none⟩ = some (.int .i64 ((rd_T77 l0 x5_1).f2)) := (blk_cell BK391.out 2).trans rfl
                                      have hcz25_3 : wc.cell? ⟨gb391, 3, none⟩ = some (.int .i64 ((rd_T77 l0 x5_1).f3)) := (blk_cell BK391.out 3).trans rfl
                                      have hfz25_0 := blk_frozen BK391.out 0
                                      have hfz25_1 := blk_frozen BK391.out 1
                                      have hfz25_2 := blk_frozen BK391.out 2
                                      have hfz25_3 := blk_frozen BK391.out 3
                                      obtain ⟨Ao26, co26, eo26⟩ := Kd.R_slice HO_4.out
                                      subst eo26
                                      have p392 : 0 ≤ (((rd_T77 l0 x5_1).f2) : Int) := of_decide_eq_true (by first | (with_reducible assumption) | assumption)
                                      have q392 : ((rd_T77 l0 x5_1).f2) < (x4_1.length : Int) := of_decide_eq_true (by first | (with_reducible assumption) | assumption)
                                      obtain ⟨ad392, e392, hx392_0⟩ := Kd.at_int (Kd.R_reads' HO_4.out).2.2 ((rd_T77 l0 x5_1).f2) p392 q392
                                      cases e392
                                      replace p392 := eq_true p392
                                      replace q392 := eq_true q392
                                      go_wp2_with (first | (go_at_call 118; (with_reducible refine (spec_l3Two.calls ((rd_T77 l0 x5_1).f0) true _ A19.out).mono ?_); rintro e w' ⟨rfl, ⟨nd, rfl⟩⟩; have p394 : 0 ≤ (((rd_T77 l0 x5_1).f3) : Int) := of_decide_eq_true (by first | (with_reducible assumption) | assumption); have q394 : ((rd_T77 l0 x5_1).f3) < (x4_1.length : Int) := of_decide_eq_true (by first | (with_reducible assumption) | assumption); obtain ⟨ad394, e394, hx394_0⟩ := Kd.at_int (Kd.R_reads' HO_4.out).2.2 ((rd_T77 l0 x5_1).f3) p394 q394; obtain rfl : ad392 = ad394 := (by injection e394); replace p394 := eq_true p394; replace q394 := eq_true q394) | ((with_reducible refine gate_builtin (b := .append) (xs := #[.tmp 57, .tmp 59]) rfl ?_); at_builtin; refine Kd.R_append (Kd.int .i64) (w0 := w) w.heap.size rfl (.tmp 57) (.tmp 59) 25 2 (.int .i64 0) 8 rfl Try.underlying25 info2 rfl (by decide) (by omega) (.slice (some ad392) x4_1.length co26) x4_1 2 [.int .i64 2] (fun _ => True) (fun _ => False) rfl rfl ?aP (fun _ hk => hk.elim) ?aF ?aO ?aB ?aS ?aL ?_; (case aP => exact rfl); (case aB => exact (by repeat (first | (with_reducible first | exact HB.out | apply below_alloc | apply pw_below_drewN | apply below_drew1 | refine below_set ?_ GE391.out) | exact HB.out))); (case aF => exact (fun _ _ => trivial)); (case aO => exact (by (with_reducible repeat (first | apply Kd.R_alloc | apply Kd.R_drewN | apply Kd.R_drew)); exact HO_4.out)); (case aS => exact (below_size (by repeat (first | (with_reducible first | exact HB.out | apply below_alloc | apply pw_below_drewN | apply below_drew1 | refine below_set ?_ GE391.out) | exact HB.out)))); (case aL => have := LMc24.out; omega); intro v396 w27 ho hb hg hat; rw [← Ny395.out] at ho; have n0_ := Aside0.mk (blk_grown (g := gb391) (o := .cells #[.int .i64 ((rd_T77 l0 x5_1).f0), .int .i64 ((rd_T77 l0 x5_1).f1), .int .i64 ((rd_T77 l0 x5_1).f2), .int .i64 ((rd_T77 l0 x5_1).f3)] 77 (0, 0)) (by (with_reducible repeat (first | refine blk_drewN ?_ _ | refine blk_drew ?_ | refine blk_alloc ?_ _)); exact BK391.out) hg (Kd.R_ne HO_4.out BK391.out (by decide))); have n1_ := Aside0.mk (hb); have n2_ := Aside0.mk (ho); clear BK391; clear HB; clear HO_4; have BK391 := n0_; have HB := n1_; have HO397 := n2_; clear n0_ n1_ n2_; clear ho hb hg hat))
                                      go_roundg kj11
                                      case measure => have := HK1.out; have := HJ5.out; have := HJ11.out; omega
                                      case rel => exact ⟨(y395), (wrap64 (x5_1 + 1)), (by first | rfl | (simp; done) | (simp [*]; done)), H', ⟨by have := HK1.out; have := HJ5.out; have := HJ11.out; omega⟩, ⟨by (with_reducible repeat (first | apply Kd.R_alloc | apply Kd.R_drewN | apply Kd.R_drew)); exact HO397.out⟩, ⟨by repeat (first | (with_reducible first | exact HB.out | apply below_alloc | apply pw_below_drewN | apply below_drew1 | refine below_set ?_ GE391.out) | exact HB.out)⟩⟩
                                    · rw [if_neg c24] at H
                                      exact absurd H (by simp)
                                  · rw [if_neg c23] at H
                                    have c23b0 : ((rd x4_1 ((rd_T77 l0 x5_1).f3)) == x7_11) = false := beq_eq_false_iff_ne.mpr c23
                                    have c23b1 : ((rd x4_1 ((rd_T77 l0 x5_1).f3)) != x7_11) = true := bne_iff_ne.mpr c23
                                    simp only [Option.some.injEq, Prod.mk.injEq] at H
                                    obtain ⟨rfl, rfl⟩ := H
                                    have hcz28_0 : wc.cell? ⟨gb391, 0, none⟩ = some (.int .i64 ((rd_T77 l0 x5_1).f0)) := (blk_cell BK391.out 0).trans rfl
                                    have hcz28_1 : wc.cell? ⟨gb391, 1, none⟩ = some (.int .i64 ((rd_T77 l0 x5_1).f1)) := (blk_cell BK391.out 1).trans rfl
                                    have hcz28_2 : wc.cell? ⟨gb391, 2, none⟩ = some (.int .i64 ((rd_T77 l0 x5_1).f2)) := (blk_cell BK391.out 2).trans rfl
                                    have hcz28_3 : wc.cell? ⟨gb391, 3, none⟩ = some (.int .i64 ((rd_T77 l0 x5_1).f3)) := (blk_cell BK391.out 3).trans rfl
                                    have hfz28_0 := blk_frozen BK391.out 0
                                    have hfz28_1 := blk_frozen BK391.out 1
                                    have hfz28_2 := blk_frozen BK391.out 2
                                    have hfz28_3 := blk_frozen BK391.out 3
                                    obtain ⟨Ao29, co29, eo29⟩ := Kd.R_slice HO_4.out
                                    subst eo29
                                    have p392 : 0 ≤ (((rd_T77 l0 x5_1).f2) : Int) := of_decide_eq_true (by first | (with_reducible assumption) | assumption)
                                    have q392 : ((rd_T77 l0 x5_1).f2) < (x4_1.length : Int) := of_decide_eq_true (by first | (with_reducible assumption) | assumption)
                                    obtain ⟨ad392, e392, hx392_0⟩ := Kd.at_int (Kd.R_reads' HO_4.out).2.2 ((rd_T77 l0 x5_1).f2) p392 q392
                                    cases e392
                                    replace p392 := eq_true p392
                                    replace q392 := eq_true q392
                                    go_wp2_with (first | (go_at_call 118; (with_reducible refine (spec_l3Two.calls ((rd_T77 l0 x5_1).f0) true _ A19.out).mono ?_); rintro e w' ⟨rfl, ⟨nd, rfl⟩⟩; have p394 : 0 ≤ (((rd_T77 l0 x5_1).f3) : Int) := of_decide_eq_true (by first | (with_reducible assumption) | assumption); have q394 : ((rd_T77 l0 x5_1).f3) < (x4_1.length : Int) := of_decide_eq_true (by first | (with_reducible assumption) | assumption); obtain ⟨ad394, e394, hx394_0⟩ := Kd.at_int (Kd.R_reads' HO_4.out).2.2 ((rd_T77 l0 x5_1).f3) p394 q394; obtain rfl : ad392 = ad394 := (by injection e394); replace p394 := eq_true p394; replace q394 := eq_true q394))
                                    go_ret2
                                    exact ⟨_, by first | rfl | (simp [errW_none, errW_some] <;> rfl) | (simp [*, errW_none, errW_some] <;> rfl), by first | exact Kd.R_nil _ _ _ _ _ | exact Kd.N_nil _ _ _ _ _ | exact Kd.V_nil _ _ _ _ _ | exact Kd.Q_nil _ _ _ _ _ | exact Kd.S_nil _ _ _ _ _, by repeat (first | (with_reducible first | exact HB.out | apply below_alloc | apply pw_below_drewN | apply below_drew1 | refine below_set ?_ GE391.out) | exact HB.out)⟩
                                · rw [if_neg c22] at H
                                  exact absurd H (by simp)
                              · rw [if_neg c21] at H
                                exact absurd H (by simp)
                            · replace c20 := Bool.eq_false_iff.mpr c20
                              subst c20
                              have H1 : (if x4_1.length < 17592186044416 then (spec_l3Types.l0 kj11 l0 (x4_1 ++ [2]) (wrap64 (x5_1 + 1))) else (none)) = some (r1, r2) := by rw [if_neg (show ¬ (false = true) by decide)] at H; exact H
                              clear H
                              have H := H1
                              clear H1
                              by_cases c30 : x4_1.length < 17592186044416
                              · rw [if_pos c30] at H
                                have LMc30 := Aside0.mk c30
                                clear c30
                                obtain ⟨y398, hy398⟩ : ∃ y_ : List Int, y_ = (x4_1 ++ [2]) := ⟨_, rfl⟩
                                replace H : (spec_l3Types.l0 kj11 l0 y398 (wrap64 (x5_1 + 1))) = some (r1, r2) := by first | (rw [hy398]; with_reducible exact H) | (have H2_ := (Option.bind_some _ _).symm.trans H; rw [hy398]; with_reducible exact H2_) | (have H2_ := (Option.bind_some _ _).symm.trans H; with_reducible exact H2_) | with_reducible exact H | (rw [hy398]; exact H) | exact H
                                have Ny398 := Aside0.mk hy398
                                clear hy398
                                have H' := Aside0.mk H
                                clear H
                                have hcz31_0 : wc.cell? ⟨gb391, 0, none⟩ = some (.int .i64 ((rd_T77 l0 x5_1).f0)) := (blk_cell BK391.out 0).trans rfl
                                have hcz31_1 : wc.cell? ⟨gb391, 1, none⟩ = some (.int .i64 ((rd_T77 l0 x5_1).f1)) := (blk_cell BK391.out 1).trans rfl
                                have hcz31_2 : wc.cell? ⟨gb391, 2, none⟩ = some (.int .i64 ((rd_T77 l0 x5_1).f2)) := (blk_cell BK391.out 2).trans rfl
                                have hcz31_3 : wc.cell? ⟨gb391, 3, none⟩ = some (.int .i64 ((rd_T77 l0 x5_1).f3)) := (blk_cell BK391.out 3).trans rfl
                                have hfz31_0 := blk_frozen BK391.out 0
                                have hfz31_1 := blk_frozen BK391.out 1
                                have hfz31_2 := blk_frozen BK391.out 2
                                have hfz31_3 := blk_frozen BK391.out 3
                                obtain ⟨Ao32, co32, eo32⟩ := Kd.R_slice HO_4.out
                                subst eo32
                                have p392 : 0 ≤ (((rd_T77 l0 x5_1).f2) : Int) := of_decide_eq_true (by first | (with_reducible assumption) | assumption)
                                have q392 : ((rd_T77 l0 x5_1).f2) < (x4_1.length : Int) := of_decide_eq_true (by first | (with_reducible assumption) | assumption)
                                obtain ⟨ad392, e392, hx392_0⟩ := Kd.at_int (Kd.R_reads' HO_4.out).2.2 ((rd_T77 l0 x5_1).f2) p392 q392
                                cases e392
                                replace p392 := eq_true p392
                                replace q392 := eq_true q392
                                go_wp2_with (first | (go_at_call 118; (with_reducible refine (spec_l3Two.calls ((rd_T77 l0 x5_1).f0) false _ A19.out).mono ?_); rintro e w' ⟨rfl, ⟨nd, rfl⟩⟩) | ((with_reducible refine gate_builtin (b := .append) (xs := #[.tmp 57, .tmp 59]) rfl ?_); at_builtin; refine Kd.R_append (Kd.int .i64) (w0 := w) w.heap.size rfl (.tmp 57) (.tmp 59) 25 2 (.int .i64 0) 8 rfl Try.underlying25 info2 rfl (by decide) (by omega) (.slice (some ad392) x4_1.length co32) x4_1 2 [.int .i64 2] (fun _ => True) (fun _ => False) rfl rfl ?aP (fun _ hk => hk.elim) ?aF ?aO ?aB ?aS ?aL ?_; (case aP => exact rfl); (case aB => exact (by repeat (first | (with_reducible first | exact HB.out | apply below_alloc | apply pw_below_drewN | apply below_drew1 | refine below_set ?_ GE391.out) | exact HB.out))); (case aF => exact (fun _ _ => trivial)); (case aO => exact (by (with_reducible repeat (first | apply Kd.R_alloc | apply Kd.R_drewN | apply Kd.R_drew)); exact HO_4.out)); (case aS => exact (below_size (by repeat (first | (with_reducible first | exact HB.out | apply below_alloc | apply pw_below_drewN | apply below_drew1 | refine below_set ?_ GE391.out) | exact HB.out)))); (case aL => have := LMc30.out; omega); intro v399 w33 ho hb hg hat; rw [← Ny398.out] at ho; have n0_ := Aside0.mk (blk_grown (g := gb391) (o := .cells #[.int .i64 ((rd_T77 l0 x5_1).f0), .int .i64 ((rd_T77 l0 x5_1).f1), .int .i64 ((rd_T77 l0 x5_1).f2), .int .i64 ((rd_T77 l0 x5_1).f3)] 77 (0, 0)) (by (with_reducible repeat (first | refine blk_drewN ?_ _ | refine blk_drew ?_ | refine blk_alloc ?_ _)); exact BK391.out) hg (Kd.R_ne HO_4.out BK391.out (by decide))); have n1_ := Aside0.mk (hb); have n2_ := Aside0.mk (ho); clear BK391; clear HB; clear HO_4; have BK391 := n0_; have HB := n1_; have HO400 := n2_; clear n0_ n1_ n2_; clear ho hb hg hat))
                                go_roundg kj11
                                case measure => have := HK1.out; have := HJ5.out; have := HJ11.out; omega
                                case rel => exact ⟨(y398), (wrap64 (x5_1 + 1)), (by first | rfl | (simp; done) | (simp [*]; done)), H', ⟨by have := HK1.out; have := HJ5.out; have := HJ11.out; omega⟩, ⟨by (with_reducible repeat (first | apply Kd.R_alloc | apply Kd.R_drewN | apply Kd.R_drew)); exact HO400.out⟩, ⟨by repeat (first | (with_reducible first | exact HB.out | apply below_alloc | apply pw_below_drewN | apply below_drew1 | refine below_set ?_ GE391.out) | exact HB.out)⟩⟩
                              · rw [if_neg c30] at H
                                exact absurd H (by simp)
                          · rw [if_neg c18] at H
                            have c18b0 : ((rd x4_1 ((rd_T77 l0 x5_1).f2)) == x7_11) = false := beq_eq_false_iff_ne.mpr c18
                            have c18b1 : ((rd x4_1 ((rd_T77 l0 x5_1).f2)) != x7_11) = true := bne_iff_ne.mpr c18
                            simp only [Option.some.injEq, Prod.mk.injEq] at H
                            obtain ⟨rfl, rfl⟩ := H
                            have hcz34_0 : wc.cell? ⟨gb391, 0, none⟩ = some (.int .i64 ((rd_T77 l0 x5_1).f0)) := (blk_cell BK391.out 0).trans rfl
                            have hcz34_1 : wc.cell? ⟨gb391, 1, none⟩ = some (.int .i64 ((rd_T77 l0 x5_1).f1)) := (blk_cell BK391.out 1).trans rfl
                            have hcz34_2 : wc.cell? ⟨gb391, 2, none⟩ = some (.int .i64 ((rd_T77 l0 x5_1).f2)) := (blk_cell BK391.out 2).trans rfl
                            have hcz34_3 : wc.cell? ⟨gb391, 3, none⟩ = some (.int .i64 ((rd_T77 l0 x5_1).f3)) := (blk_cell BK391.out 3).trans rfl
                            have hfz34_0 := blk_frozen BK391.out 0
                            have hfz34_1 := blk_frozen BK391.out 1
                            have hfz34_2 := blk_frozen BK391.out 2
                            have hfz34_3 := blk_frozen BK391.out 3
                            obtain ⟨Ao35, co35, eo35⟩ := Kd.R_slice HO_4.out
                            subst eo35
                            have p392 : 0 ≤ (((rd_T77 l0 x5_1).f2) : Int) := of_decide_eq_true (by first | (with_reducible assumption) | assumption)
                            have q392 : ((rd_T77 l0 x5_1).f2) < (x4_1.length : Int) := of_decide_eq_true (by first | (with_reducible assumption) | assumption)
                            obtain ⟨ad392, e392, hx392_0⟩ := Kd.at_int (Kd.R_reads' HO_4.out).2.2 ((rd_T77 l0 x5_1).f2) p392 q392
                            cases e392
                            replace p392 := eq_true p392
                            replace q392 := eq_true q392
                            go_wp2
                            go_ret2
                            exact ⟨_, by first | rfl | (simp [errW_none, errW_some] <;> rfl) | (simp [*, errW_none, errW_some] <;> rfl), by first | exact Kd.R_nil _ _ _ _ _ | exact Kd.N_nil _ _ _ _ _ | exact Kd.V_nil _ _ _ _ _ | exact Kd.Q_nil _ _ _ _ _ | exact Kd.S_nil _ _ _ _ _, by repeat (first | (with_reducible first | exact HB.out | apply below_alloc | apply pw_below_drewN | apply below_drew1 | refine below_set ?_ GE391.out) | exact HB.out)⟩
                        · rw [if_neg c17] at H
                          exact absurd H (by simp)
                      · rw [if_neg c16] at H
                        exact absurd H (by simp)
                    · rw [if_neg c15] at H
                      have c15b0 : decide (2 < ((rd_T77 l0 x5_1).f0)) = false := decide_eq_false c15
                      clear c15
                      replace H := Option.bind_eq_some_iff.mp H
                      obtain ⟨t401, A360, H⟩ := H
                      replace H : (if t401 = true then (if 0 ≤ ((rd_T77 l0 x5_1).f3) then (if ((rd_T77 l0 x5_1).f3) < (x4_1.length : Int) then (if (rd x4_1 ((rd_T77 l0 x5_1).f3)) = x7_11 then (if x4_1.length < 17592186044416 then (spec_l3Types.l0 kj11 l0 (x4_1 ++ [2]) (wrap64 (x5_1 + 1))) else (none)) else (some (([] : List Int), false))) else (none)) else (none)) else (if x4_1.length < 17592186044416 then (spec_l3Types.l0 kj11 l0 (x4_1 ++ [2]) (wrap64 (x5_1 + 1))) else (none))) = some (r1, r2) := H
                      have A36 := Aside0.mk A360
                      clear A360
                      by_cases c37 : t401 = true
                      · subst c37
                        have H1 : (if 0 ≤ ((rd_T77 l0 x5_1).f3) then (if ((rd_T77 l0 x5_1).f3) < (x4_1.length : Int) then (if (rd x4_1 ((rd_T77 l0 x5_1).f3)) = x7_11 then (if x4_1.length < 17592186044416 then (spec_l3Types.l0 kj11 l0 (x4_1 ++ [2]) (wrap64 (x5_1 + 1))) else (none)) else (some (([] : List Int), false))) else (none)) else (none)) = some (r1, r2) := by rw [if_pos rfl] at H; exact H
                        clear H
                        have H := H1
                        clear H1
                        by_cases c38 : 0 ≤ ((rd_T77 l0 x5_1).f3)
                        · rw [if_pos c38] at H
                          have c38b0 : decide (0 ≤ ((rd_T77 l0 x5_1).f3)) = true := decide_eq_true c38
                          clear c38
                          by_cases c39 : ((rd_T77 l0 x5_1).f3) < (x4_1.length : Int)
                          · rw [if_pos c39] at H
                            have c39b0 : decide (((rd_T77 l0 x5_1).f3) < (x4_1.length : Int)) = true := decide_eq_true c39
                            clear c39
                            by_cases c40 : (rd x4_1 ((rd_T77 l0 x5_1).f3)) = x7_11
                            · rw [if_pos c40] at H
                              have c40b0 : ((rd x4_1 ((rd_T77 l0 x5_1).f3)) == x7_11) = true := beq_iff_eq.mpr c40
                              have c40b1 : ((rd x4_1 ((rd_T77 l0 x5_1).f3)) != x7_11) = false := bne_eq_false_iff_eq.mpr c40
                              clear c40
                              by_cases c41 : x4_1.length < 17592186044416
                              · rw [if_pos c41] at H
                                have LMc41 := Aside0.mk c41
                                clear c41
                                obtain ⟨y403, hy403⟩ : ∃ y_ : List Int, y_ = (x4_1 ++ [2]) := ⟨_, rfl⟩
                                replace H : (spec_l3Types.l0 kj11 l0 y403 (wrap64 (x5_1 + 1))) = some (r1, r2) := by first | (rw [hy403]; with_reducible exact H) | (have H2_ := (Option.bind_some _ _).symm.trans H; rw [hy403]; with_reducible exact H2_) | (have H2_ := (Option.bind_some _ _).symm.trans H; with_reducible exact H2_) | with_reducible exact H | (rw [hy403]; exact H) | exact H
                                have Ny403 := Aside0.mk hy403
                                clear hy403
                                have H' := Aside0.mk H
                                clear H
                                have hcz42_0 : wc.cell? ⟨gb391, 0, none⟩ = some (.int .i64 ((rd_T77 l0 x5_1).f0)) := (blk_cell BK391.out 0).trans rfl
                                have hcz42_1 : wc.cell? ⟨gb391, 1, none⟩ = some (.int .i64 ((rd_T77 l0 x5_1).f1)) := (blk_cell BK391.out 1).trans rfl
                                have hcz42_2 : wc.cell? ⟨gb391, 2, none⟩ = some (.int .i64 ((rd_T77 l0 x5_1).f2)) := (blk_cell BK391.out 2).trans rfl
                                have hcz42_3 : wc.cell? ⟨gb391, 3, none⟩ = some (.int .i64 ((rd_T77 l0 x5_1).f3)) := (blk_cell BK391.out 3).trans rfl
                                have hfz42_0 := blk_frozen BK391.out 0
                                have hfz42_1 := blk_frozen BK391.out 1
                                have hfz42_2 := blk_frozen BK391.out 2
                                have hfz42_3 := blk_frozen BK391.out 3
                                go_wp2_with (first | (go_at_call 118; (with_reducible refine (spec_l3Two.calls ((rd_T77 l0 x5_1).f0) true _ A36.out).mono ?_); rintro e w' ⟨rfl, ⟨nd, rfl⟩⟩; obtain ⟨Ao43, co43, eo43⟩ := Kd.R_slice HO_4.out; subst eo43; have p402 : 0 ≤ (((rd_T77 l0 x5_1).f3) : Int) := of_decide_eq_true (by first | (with_reducible assumption) | assumption); have q402 : ((rd_T77 l0 x5_1).f3) < (x4_1.length : Int) := of_decide_eq_true (by first | (with_reducible assumption) | assumption); obtain ⟨ad402, e402, hx402_0⟩ := Kd.at_int (Kd.R_reads' HO_4.out).2.2 ((rd_T77 l0 x5_1).f3) p402 q402; cases e402; replace p402 := eq_true p402; replace q402 := eq_true q402) | ((with_reducible refine gate_builtin (b := .append) (xs := #[.tmp 57, .tmp 59]) rfl ?_); at_builtin; refine Kd.R_append (Kd.int .i64) (w0 := w) w.heap.size rfl (.tmp 57) (.tmp 59) 25 2 (.int .i64 0) 8 rfl Try.underlying25 info2 rfl (by decide) (by omega) (.slice (some ad402) x4_1.length co43) x4_1 2 [.int .i64 2] (fun _ => True) (fun _ => False) rfl rfl ?aP (fun _ hk => hk.elim) ?aF ?aO ?aB ?aS ?aL ?_; (case aP => exact rfl); (case aB => exact (by repeat (first | (with_reducible first | exact HB.out | apply below_alloc | apply pw_below_drewN | apply below_drew1 | refine below_set ?_ GE391.out) | exact HB.out))); (case aF => exact (fun _ _ => trivial)); (case aO => exact (by (with_reducible repeat (first | apply Kd.R_alloc | apply Kd.R_drewN | apply Kd.R_drew)); exact HO_4.out)); (case aS => exact (below_size (by repeat (first | (with_reducible first | exact HB.out | apply below_alloc | apply pw_below_drewN | apply below_drew1 | refine below_set ?_ GE391.out) | exact HB.out)))); (case aL => have := LMc41.out; omega); intro v404 w44 ho hb hg hat; rw [← Ny403.out] at ho; have n0_ := Aside0.mk (blk_grown (g := gb391) (o := .cells #[.int .i64 ((rd_T77 l0 x5_1).f0), .int .i64 ((rd_T77 l0 x5_1).f1), .int .i64 ((rd_T77 l0 x5_1).f2), .int .i64 ((rd_T77 l0 x5_1).f3)] 77 (0, 0)) (by (with_reducible repeat (first | refine blk_drewN ?_ _ | refine blk_drew ?_ | refine blk_alloc ?_ _)); exact BK391.out) hg (Kd.R_ne HO_4.out BK391.out (by decide))); have n1_ := Aside0.mk (hb); have n2_ := Aside0.mk (ho); clear BK391; clear HB; clear HO_4; have BK391 := n0_; have HB := n1_; have HO405 := n2_; clear n0_ n1_ n2_; clear ho hb hg hat))
                                go_roundg kj11
                                case measure => have := HK1.out; have := HJ5.out; have := HJ11.out; omega
                                case rel => exact ⟨(y403), (wrap64 (x5_1 + 1)), (by first | rfl | (simp; done) | (simp [*]; done)), H', ⟨by have := HK1.out; have := HJ5.out; have := HJ11.out; omega⟩, ⟨by (with_reducible repeat (first | apply Kd.R_alloc | apply Kd.R_drewN | apply Kd.R_drew)); exact HO405.out⟩, ⟨by repeat (first | (with_reducible first | exact HB.out | apply below_alloc | apply pw_below_drewN | apply below_drew1 | refine below_set ?_ GE391.out) | exact HB.out)⟩⟩
                              · rw [if_neg c41] at H
                                exact absurd H (by simp)
                            · rw [if_neg c40] at H
                              have c40b0 : ((rd x4_1 ((rd_T77 l0 x5_1).f3)) == x7_11) = false := beq_eq_false_iff_ne.mpr c40
                              have c40b1 : ((rd x4_1 ((rd_T77 l0 x5_1).f3)) != x7_11) = true := bne_iff_ne.mpr c40
                              simp only [Option.some.injEq, Prod.mk.injEq] at H
                              obtain ⟨rfl, rfl⟩ := H
                              have hcz45_0 : wc.cell? ⟨gb391, 0, none⟩ = some (.int .i64 ((rd_T77 l0 x5_1).f0)) := (blk_cell BK391.out 0).trans rfl
                              have hcz45_1 : wc.cell? ⟨gb391, 1, none⟩ = some (.int .i64 ((rd_T77 l0 x5_1).f1)) := (blk_cell BK391.out 1).trans rfl
                              have hcz45_2 : wc.cell? ⟨gb391, 2, none⟩ = some (.int .i64 ((rd_T77 l0 x5_1).f2)) := (blk_cell BK391.out 2).trans rfl
                              have hcz45_3 : wc.cell? ⟨gb391, 3, none⟩ = some (.int .i64 ((rd_T77 l0 x5_1).f3)) := (blk_cell BK391.out 3).trans rfl
                              have hfz45_0 := blk_frozen BK391.out 0
                              have hfz45_1 := blk_frozen BK391.out 1
                              have hfz45_2 := blk_frozen BK391.out 2
                              have hfz45_3 := blk_frozen BK391.out 3
                              go_wp2_with (first | (go_at_call 118; (with_reducible refine (spec_l3Two.calls ((rd_T77 l0 x5_1).f0) true _ A36.out).mono ?_); rintro e w' ⟨rfl, ⟨nd, rfl⟩⟩; obtain ⟨Ao46, co46, eo46⟩ := Kd.R_slice HO_4.out; subst eo46; have p402 : 0 ≤ (((rd_T77 l0 x5_1).f3) : Int) := of_decide_eq_true (by first | (with_reducible assumption) | assumption); have q402 : ((rd_T77 l0 x5_1).f3) < (x4_1.length : Int) := of_decide_eq_true (by first | (with_reducible assumption) | assumption); obtain ⟨ad402, e402, hx402_0⟩ := Kd.at_int (Kd.R_reads' HO_4.out).2.2 ((rd_T77 l0 x5_1).f3) p402 q402; cases e402; replace p402 := eq_true p402; replace q402 := eq_true q402))
                              go_ret2
                              exact ⟨_, by first | rfl | (simp [errW_none, errW_some] <;> rfl) | (simp [*, errW_none, errW_some] <;> rfl), by first | exact Kd.R_nil _ _ _ _ _ | exact Kd.N_nil _ _ _ _ _ | exact Kd.V_nil _ _ _ _ _ | exact Kd.Q_nil _ _ _ _ _ | exact Kd.S_nil _ _ _ _ _, by repeat (first | (with_reducible first | exact HB.out | apply below_alloc | apply pw_below_drewN | apply below_drew1 | refine below_set ?_ GE391.out) | exact HB.out)⟩
                          · rw [if_neg c39] at H
                            exact absurd H (by simp)
                        · rw [if_neg c38] at H
                          exact absurd H (by simp)
                      · replace c37 := Bool.eq_false_iff.mpr c37
                        subst c37
                        have H1 : (if x4_1.length < 17592186044416 then (spec_l3Types.l0 kj11 l0 (x4_1 ++ [2]) (wrap64 (x5_1 + 1))) else (none)) = some (r1, r2) := by rw [if_neg (show ¬ (false = true) by decide)] at H; exact H
                        clear H
                        have H := H1
                        clear H1
                        by_cases c47 : x4_1.length < 17592186044416
                        · rw [if_pos c47] at H
                          have LMc47 := Aside0.mk c47
                          clear c47
                          obtain ⟨y406, hy406⟩ : ∃ y_ : List Int, y_ = (x4_1 ++ [2]) := ⟨_, rfl⟩
                          replace H : (spec_l3Types.l0 kj11 l0 y406 (wrap64 (x5_1 + 1))) = some (r1, r2) := by first | (rw [hy406]; with_reducible exact H) | (have H2_ := (Option.bind_some _ _).symm.trans H; rw [hy406]; with_reducible exact H2_) | (have H2_ := (Option.bind_some _ _).symm.trans H; with_reducible exact H2_) | with_reducible exact H | (rw [hy406]; exact H) | exact H
                          have Ny406 := Aside0.mk hy406
                          clear hy406
                          have H' := Aside0.mk H
                          clear H
                          have hcz48_0 : wc.cell? ⟨gb391, 0, none⟩ = some (.int .i64 ((rd_T77 l0 x5_1).f0)) := (blk_cell BK391.out 0).trans rfl
                          have hcz48_1 : wc.cell? ⟨gb391, 1, none⟩ = some (.int .i64 ((rd_T77 l0 x5_1).f1)) := (blk_cell BK391.out 1).trans rfl
                          have hcz48_2 : wc.cell? ⟨gb391, 2, none⟩ = some (.int .i64 ((rd_T77 l0 x5_1).f2)) := (blk_cell BK391.out 2).trans rfl
                          have hcz48_3 : wc.cell? ⟨gb391, 3, none⟩ = some (.int .i64 ((rd_T77 l0 x5_1).f3)) := (blk_cell BK391.out 3).trans rfl
                          have hfz48_0 := blk_frozen BK391.out 0
                          have hfz48_1 := blk_frozen BK391.out 1
                          have hfz48_2 := blk_frozen BK391.out 2
                          have hfz48_3 := blk_frozen BK391.out 3
                          go_wp2_with (first | (go_at_call 118; (with_reducible refine (spec_l3Two.calls ((rd_T77 l0 x5_1).f0) false _ A36.out).mono ?_); rintro e w' ⟨rfl, ⟨nd, rfl⟩⟩) | ((with_reducible refine gate_builtin (b := .append) (xs := #[.tmp 57, .tmp 59]) rfl ?_); at_builtin; refine Kd.R_append (Kd.int .i64) (w0 := w) w.heap.size rfl (.tmp 57) (.tmp 59) 25 2 (.int .i64 0) 8 rfl Try.underlying25 info2 rfl (by decide) (by omega) u4 x4_1 2 [.int .i64 2] (fun _ => True) (fun _ => False) rfl rfl ?aP (fun _ hk => hk.elim) ?aF ?aO ?aB ?aS ?aL ?_; (case aP => exact rfl); (case aB => exact (by repeat (first | (with_reducible first | exact HB.out | apply below_alloc | apply pw_below_drewN | apply below_drew1 | refine below_set ?_ GE391.out) | exact HB.out))); (case aF => exact (fun _ _ => trivial)); (case aO => exact (by (with_reducible repeat (first | apply Kd.R_alloc | apply Kd.R_drewN | apply Kd.R_drew)); exact HO_4.out)); (case aS => exact (below_size (by repeat (first | (with_reducible first | exact HB.out | apply below_alloc | apply pw_below_drewN | apply below_drew1 | refine below_set ?_ GE391.out) | exact HB.out)))); (case aL => have := LMc47.out; omega); intro v407 w49 ho hb hg hat; rw [← Ny406.out] at ho; have n0_ := Aside0.mk (blk_grown (g := gb391) (o := .cells #[.int .i64 ((rd_T77 l0 x5_1).f0), .int .i64 ((rd_T77 l0 x5_1).f1), .int .i64 ((rd_T77 l0 x5_1).f2), .int .i64 ((rd_T77 l0 x5_1).f3)] 77 (0, 0)) (by (with_reducible repeat (first | refine blk_drewN ?_ _ | refine blk_drew ?_ | refine blk_alloc ?_ _)); exact BK391.out) hg (Kd.R_ne HO_4.out BK391.out (by decide))); have n1_ := Aside0.mk (hb); have n2_ := Aside0.mk (ho); clear BK391; clear HB; clear HO_4; have BK391 := n0_; have HB := n1_; have HO408 := n2_; clear n0_ n1_ n2_; clear ho hb hg hat))
                          go_roundg kj11
                          case measure => have := HK1.out; have := HJ5.out; have := HJ11.out; omega
                          case rel => exact ⟨(y406), (wrap64 (x5_1 + 1)), (by first | rfl | (simp; done) | (simp [*]; done)), H', ⟨by have := HK1.out; have := HJ5.out; have := HJ11.out; omega⟩, ⟨by (with_reducible repeat (first | apply Kd.R_alloc | apply Kd.R_drewN | apply Kd.R_drew)); exact HO408.out⟩, ⟨by repeat (first | (with_reducible first | exact HB.out | apply below_alloc | apply pw_below_drewN | apply below_drew1 | refine below_set ?_ GE391.out) | exact HB.out)⟩⟩
                        · rw [if_neg c47] at H
                          exact absurd H (by simp)
                  · rw [if_neg c14] at H
                    have c14b0 : decide (7 ≤ ((rd_T77 l0 x5_1).f0)) = false := decide_eq_false c14
                    clear c14
                    by_cases c50 : ((rd_T77 l0 x5_1).f0) > 2
                    · rw [if_pos c50] at H
                      have c50b0 : decide (2 < ((rd_T77 l0 x5_1).f0)) = true := decide_eq_true c50
                      clear c50
                      by_cases c51 : 0 ≤ ((rd_T77 l0 x5_1).f2)
                      · rw [if_pos c51] at H
                        have c51b0 : decide (0 ≤ ((rd_T77 l0 x5_1).f2)) = true := decide_eq_true c51
                        clear c51
                        by_cases c52 : ((rd_T77 l0 x5_1).f2) < (x4_1.length : Int)
                        · rw [if_pos c52] at H
                          have c52b0 : decide (((rd_T77 l0 x5_1).f2) < (x4_1.length : Int)) = true := decide_eq_true c52
                          clear c52
                          by_cases c53 : (rd x4_1 ((rd_T77 l0 x5_1).f2)) = x7_11
                          · rw [if_pos c53] at H
                            have c53b0 : ((rd x4_1 ((rd_T77 l0 x5_1).f2)) == x7_11) = true := beq_iff_eq.mpr c53
                            have c53b1 : ((rd x4_1 ((rd_T77 l0 x5_1).f2)) != x7_11) = false := bne_eq_false_iff_eq.mpr c53
                            clear c53
                            replace H := Option.bind_eq_some_iff.mp H
                            obtain ⟨t410, A540, H⟩ := H
                            replace H : (if t410 = true then (if 0 ≤ ((rd_T77 l0 x5_1).f3) then (if ((rd_T77 l0 x5_1).f3) < (x4_1.length : Int) then (if (rd x4_1 ((rd_T77 l0 x5_1).f3)) = x7_11 then (if x4_1.length < 17592186044416 then (spec_l3Types.l0 kj11 l0 (x4_1 ++ [1]) (wrap64 (x5_1 + 1))) else (none)) else (some (([] : List Int), false))) else (none)) else (none)) else (if x4_1.length < 17592186044416 then (spec_l3Types.l0 kj11 l0 (x4_1 ++ [1]) (wrap64 (x5_1 + 1))) else (none))) = some (r1, r2) := H
                            have A54 := Aside0.mk A540
                            clear A540
                            by_cases c55 : t410 = true
                            · subst c55
                              have H1 : (if 0 ≤ ((rd_T77 l0 x5_1).f3) then (if ((rd_T77 l0 x5_1).f3) < (x4_1.length : Int) then (if (rd x4_1 ((rd_T77 l0 x5_1).f3)) = x7_11 then (if x4_1.length < 17592186044416 then (spec_l3Types.l0 kj11 l0 (x4_1 ++ [1]) (wrap64 (x5_1 + 1))) else (none)) else (some (([] : List Int), false))) else (none)) else (none)) = some (r1, r2) := by rw [if_pos rfl] at H; exact H
                              clear H
                              have H := H1
                              clear H1
                              by_cases c56 : 0 ≤ ((rd_T77 l0 x5_1).f3)
                              · rw [if_pos c56] at H
                                have c56b0 : decide (0 ≤ ((rd_T77 l0 x5_1).f3)) = true := decide_eq_true c56
                                clear c56
                                by_cases c57 : ((rd_T77 l0 x5_1).f3) < (x4_1.length : Int)
                                · rw [if_pos c57] at H
                                  have c57b0 : decide (((rd_T77 l0 x5_1).f3) < (x4_1.length : Int)) = true := decide_eq_true c57
                                  clear c57
                                  by_cases c58 : (rd x4_1 ((rd_T77 l0 x5_1).f3)) = x7_11
                                  · rw [if_pos c58] at H
                                    have c58b0 : ((rd x4_1 ((rd_T77 l0 x5_1).f3)) == x7_11) = true := beq_iff_eq.mpr c58
                                    have c58b1 : ((rd x4_1 ((rd_T77 l0 x5_1).f3)) != x7_11) = false := bne_eq_false_iff_eq.mpr c58
                                    clear c58
                                    by_cases c59 : x4_1.length < 17592186044416
                                    · rw [if_pos c59] at H
                                      have LMc59 := Aside0.mk c59
                                      clear c59
                                      obtain ⟨y412, hy412⟩ : ∃ y_ : List Int, y_ = (x4_1 ++ [1]) := ⟨_, rfl⟩
                                      replace H : (spec_l3Types.l0 kj11 l0 y412 (wrap64 (x5_1 + 1))) = some (r1, r2) := by first | (rw [hy412]; with_reducible exact H) | (have H2_ := (Option.bind_some _ _).symm.trans H; rw [hy412]; with_reducible exact H2_) | (have H2_ := (Option.bind_some _ _).symm.trans H; with_reducible exact H2_) | with_reducible exact H | (rw [hy412]; exact H) | exact H
                                      have Ny412 := Aside0.mk hy412
                                      clear hy412
                                      have H' := Aside0.mk H
                                      clear H
                                      have hcz60_0 : wc.cell? ⟨gb391, 0, none⟩ = some (.int .i64 ((rd_T77 l0 x5_1).f0)) := (blk_cell BK391.out 0).trans rfl
                                      have hcz60_1 : wc.cell? ⟨gb391, 1, none⟩ = some (.int .i64 ((rd_T77 l0 x5_1).f1)) := (blk_cell BK391.out 1).trans rfl
                                      have hcz60_2 : wc.cell? ⟨gb391, 2, none⟩ = some (.int .i64 ((rd_T77 l0 x5_1).f2)) := (blk_cell BK391.out 2).trans rfl
                                      have hcz60_3 : wc.cell? ⟨gb391, 3, none⟩ = some (.int .i64 ((rd_T77 l0 x5_1).f3)) := (blk_cell BK391.out 3).trans rfl
                                      have hfz60_0 := blk_frozen BK391.out 0
                                      have hfz60_1 := blk_frozen BK391.out 1
                                      have hfz60_2 := blk_frozen BK391.out 2
                                      have hfz60_3 := blk_frozen BK391.out 3
                                      obtain ⟨Ao61, co61, eo61⟩ := Kd.R_slice HO_4.out
                                      subst eo61
                                      have p409 : 0 ≤ (((rd_T77 l0 x5_1).f2) : Int) := of_decide_eq_true (by first | (with_reducible assumption) | assumption)
                                      have q409 : ((rd_T77 l0 x5_1).f2) < (x4_1.length : Int) := of_decide_eq_true (by first | (with_reducible assumption) | assumption)
                                      obtain ⟨ad409, e409, hx409_0⟩ := Kd.at_int (Kd.R_reads' HO_4.out).2.2 ((rd_T77 l0 x5_1).f2) p409 q409
                                      cases e409
                                      replace p409 := eq_true p409
                                      replace q409 := eq_true q409
                                      go_wp2_with (first | (go_at_call 118; (with_reducible refine (spec_l3Two.calls ((rd_T77 l0 x5_1).f0) true _ A54.out).mono ?_); rintro e w' ⟨rfl, ⟨nd, rfl⟩⟩; have p411 : 0 ≤ (((rd_T77 l0 x5_1).f3) : Int) := of_decide_eq_true (by first | (with_reducible assumption) | assumption); have q411 : ((rd_T77 l0 x5_1).f3) < (x4_1.length : Int) := of_decide_eq_true (by first | (with_reducible assumption) | assumption); obtain ⟨ad411, e411, hx411_0⟩ := Kd.at_int (Kd.R_reads' HO_4.out).2.2 ((rd_T77 l0 x5_1).f3) p411 q411; obtain rfl : ad409 = ad411 := (by injection e411); replace p411 := eq_true p411; replace q411 := eq_true q411) | ((with_reducible refine gate_builtin (b := .append) (xs := #[.tmp 57, .tmp 59]) rfl ?_); at_builtin; refine Kd.R_append (Kd.int .i64) (w0 := w) w.heap.size rfl (.tmp 57) (.tmp 59) 25 2 (.int .i64 0) 8 rfl Try.underlying25 info2 rfl (by decide) (by omega) (.slice (some ad409) x4_1.length co61) x4_1 1 [.int .i64 1] (fun _ => True) (fun _ => False) rfl rfl ?aP (fun _ hk => hk.elim) ?aF ?aO ?aB ?aS ?aL ?_; (case aP => exact rfl); (case aB => exact (by repeat (first | (with_reducible first | exact HB.out | apply below_alloc | apply pw_below_drewN | apply below_drew1 | refine below_set ?_ GE391.out) | exact HB.out))); (case aF => exact (fun _ _ => trivial)); (case aO => exact (by (with_reducible repeat (first | apply Kd.R_alloc | apply Kd.R_drewN | apply Kd.R_drew)); exact HO_4.out)); (case aS => exact (below_size (by repeat (first | (with_reducible first | exact HB.out | apply below_alloc | apply pw_below_drewN | apply below_drew1 | refine below_set ?_ GE391.out) | exact HB.out)))); (case aL => have := LMc59.out; omega); intro v413 w62 ho hb hg hat; rw [← Ny412.out] at ho; have n0_ := Aside0.mk (blk_grown (g := gb391) (o := .cells #[.int .i64 ((rd_T77 l0 x5_1).f0), .int .i64 ((rd_T77 l0 x5_1).f1), .int .i64 ((rd_T77 l0 x5_1).f2), .int .i64 ((rd_T77 l0 x5_1).f3)] 77 (0, 0)) (by (with_reducible repeat (first | refine blk_drewN ?_ _ | refine blk_drew ?_ | refine blk_alloc ?_ _)); exact BK391.out) hg (Kd.R_ne HO_4.out BK391.out (by decide))); have n1_ := Aside0.mk (hb); have n2_ := Aside0.mk (ho); clear BK391; clear HB; clear HO_4; have BK391 := n0_; have HB := n1_; have HO414 := n2_; clear n0_ n1_ n2_; clear ho hb hg hat))
                                      go_roundg kj11
                                      case measure => have := HK1.out; have := HJ5.out; have := HJ11.out; omega
                                      case rel => exact ⟨(y412), (wrap64 (x5_1 + 1)), (by first | rfl | (simp; done) | (simp [*]; done)), H', ⟨by have := HK1.out; have := HJ5.out; have := HJ11.out; omega⟩, ⟨by (with_reducible repeat (first | apply Kd.R_alloc | apply Kd.R_drewN | apply Kd.R_drew)); exact HO414.out⟩, ⟨by repeat (first | (with_reducible first | exact HB.out | apply below_alloc | apply pw_below_drewN | apply below_drew1 | refine below_set ?_ GE391.out) | exact HB.out)⟩⟩
                                    · rw [if_neg c59] at H
                                      exact absurd H (by simp)
                                  · rw [if_neg c58] at H
                                    have c58b0 : ((rd x4_1 ((rd_T77 l0 x5_1).f3)) == x7_11) = false := beq_eq_false_iff_ne.mpr c58
                                    have c58b1 : ((rd x4_1 ((rd_T77 l0 x5_1).f3)) != x7_11) = true := bne_iff_ne.mpr c58
                                    simp only [Option.some.injEq, Prod.mk.injEq] at H
                                    obtain ⟨rfl, rfl⟩ := H
                                    have hcz63_0 : wc.cell? ⟨gb391, 0, none⟩ = some (.int .i64 ((rd_T77 l0 x5_1).f0)) := (blk_cell BK391.out 0).trans rfl
                                    have hcz63_1 : wc.cell? ⟨gb391, 1, none⟩ = some (.int .i64 ((rd_T77 l0 x5_1).f1)) := (blk_cell BK391.out 1).trans rfl
                                    have hcz63_2 : wc.cell? ⟨gb391, 2, none⟩ = some (.int .i64 ((rd_T77 l0 x5_1).f2)) := (blk_cell BK391.out 2).trans rfl
                                    have hcz63_3 : wc.cell? ⟨gb391, 3, none⟩ = some (.int .i64 ((rd_T77 l0 x5_1).f3)) := (blk_cell BK391.out 3).trans rfl
                                    have hfz63_0 := blk_frozen BK391.out 0
                                    have hfz63_1 := blk_frozen BK391.out 1
                                    have hfz63_2 := blk_frozen BK391.out 2
                                    have hfz63_3 := blk_frozen BK391.out 3
                                    obtain ⟨Ao64, co64, eo64⟩ := Kd.R_slice HO_4.out
                                    subst eo64
                                    have p409 : 0 ≤ (((rd_T77 l0 x5_1).f2) : Int) := of_decide_eq_true (by first | (with_reducible assumption) | assumption)
                                    have q409 : ((rd_T77 l0 x5_1).f2) < (x4_1.length : Int) := of_decide_eq_true (by first | (with_reducible assumption) | assumption)
                                    obtain ⟨ad409, e409, hx409_0⟩ := Kd.at_int (Kd.R_reads' HO_4.out).2.2 ((rd_T77 l0 x5_1).f2) p409 q409
                                    cases e409
                                    replace p409 := eq_true p409
                                    replace q409 := eq_true q409
                                    go_wp2_with (first | (go_at_call 118; (with_reducible refine (spec_l3Two.calls ((rd_T77 l0 x5_1).f0) true _ A54.out).mono ?_); rintro e w' ⟨rfl, ⟨nd, rfl⟩⟩; have p411 : 0 ≤ (((rd_T77 l0 x5_1).f3) : Int) := of_decide_eq_true (by first | (with_reducible assumption) | assumption); have q411 : ((rd_T77 l0 x5_1).f3) < (x4_1.length : Int) := of_decide_eq_true (by first | (with_reducible assumption) | assumption); obtain ⟨ad411, e411, hx411_0⟩ := Kd.at_int (Kd.R_reads' HO_4.out).2.2 ((rd_T77 l0 x5_1).f3) p411 q411; obtain rfl : ad409 = ad411 := (by injection e411); replace p411 := eq_true p411; replace q411 := eq_true q411))
                                    go_ret2
                                    exact ⟨_, by first | rfl | (simp [errW_none, errW_some] <;> rfl) | (simp [*, errW_none, errW_some] <;> rfl), by first | exact Kd.R_nil _ _ _ _ _ | exact Kd.N_nil _ _ _ _ _ | exact Kd.V_nil _ _ _ _ _ | exact Kd.Q_nil _ _ _ _ _ | exact Kd.S_nil _ _ _ _ _, by repeat (first | (with_reducible first | exact HB.out | apply below_alloc | apply pw_below_drewN | apply below_drew1 | refine below_set ?_ GE391.out) | exact HB.out)⟩
                                · rw [if_neg c57] at H
                                  exact absurd H (by simp)
                              · rw [if_neg c56] at H
                                exact absurd H (by simp)
                            · replace c55 := Bool.eq_false_iff.mpr c55
                              subst c55
                              have H1 : (if x4_1.length < 17592186044416 then (spec_l3Types.l0 kj11 l0 (x4_1 ++ [1]) (wrap64 (x5_1 + 1))) else (none)) = some (r1, r2) := by rw [if_neg (show ¬ (false = true) by decide)] at H; exact H
                              clear H
                              have H := H1
                              clear H1
                              by_cases c65 : x4_1.length < 17592186044416
                              · rw [if_pos c65] at H
                                have LMc65 := Aside0.mk c65
                                clear c65
                                obtain ⟨y415, hy415⟩ : ∃ y_ : List Int, y_ = (x4_1 ++ [1]) := ⟨_, rfl⟩
                                replace H : (spec_l3Types.l0 kj11 l0 y415 (wrap64 (x5_1 + 1))) = some (r1, r2) := by first | (rw [hy415]; with_reducible exact H) | (have H2_ := (Option.bind_some _ _).symm.trans H; rw [hy415]; with_reducible exact H2_) | (have H2_ := (Option.bind_some _ _).symm.trans H; with_reducible exact H2_) | with_reducible exact H | (rw [hy415]; exact H) | exact H
                                have Ny415 := Aside0.mk hy415
                                clear hy415
                                have H' := Aside0.mk H
                                clear H
                                have hcz66_0 : wc.cell? ⟨gb391, 0, none⟩ = some (.int .i64 ((rd_T77 l0 x5_1).f0)) := (blk_cell BK391.out 0).trans rfl
                                have hcz66_1 : wc.cell? ⟨gb391, 1, none⟩ = some (.int .i64 ((rd_T77 l0 x5_1).f1)) := (blk_cell BK391.out 1).trans rfl
                                have hcz66_2 : wc.cell? ⟨gb391, 2, none⟩ = some (.int .i64 ((rd_T77 l0 x5_1).f2)) := (blk_cell BK391.out 2).trans rfl
                                have hcz66_3 : wc.cell? ⟨gb391, 3, none⟩ = some (.int .i64 ((rd_T77 l0 x5_1).f3)) := (blk_cell BK391.out 3).trans rfl
                                have hfz66_0 := blk_frozen BK391.out 0
                                have hfz66_1 := blk_frozen BK391.out 1
                                have hfz66_2 := blk_frozen BK391.out 2
                                have hfz66_3 := blk_frozen BK391.out 3
                                obtain ⟨Ao67, co67, eo67⟩ := Kd.R_slice HO_4.out
                                subst eo67
                                have p409 : 0 ≤ (((rd_T77 l0 x5_1).f2) : Int) := of_decide_eq_true (by first | (with_reducible assumption) | assumption)
                                have q409 : ((rd_T77 l0 x5_1).f2) < (x4_1.length : Int) := of_decide_eq_true (by first | (with_reducible assumption) | assumption)
                                obtain ⟨ad409, e409, hx409_0⟩ := Kd.at_int (Kd.R_reads' HO_4.out).2.2 ((rd_T77 l0 x5_1).f2) p409 q409
                                cases e409
                                replace p409 := eq_true p409
                                replace q409 := eq_true q409
                                go_wp2_with (first | (go_at_call 118; (with_reducible refine (spec_l3Two.calls ((rd_T77 l0 x5_1).f0) false _ A54.out).mono ?_); rintro e w' ⟨rfl, ⟨nd, rfl⟩⟩) | ((with_reducible refine gate_builtin (b := .append) (xs := #[.tmp 57, .tmp 59]) rfl ?_); at_builtin; refine Kd.R_append (Kd.int .i64) (w0 := w) w.heap.size rfl (.tmp 57) (.tmp 59) 25 2 (.int .i64 0) 8 rfl Try.underlying25 info2 rfl (by decide) (by omega) (.slice (some ad409) x4_1.length co67) x4_1 1 [.int .i64 1] (fun _ => True) (fun _ => False) rfl rfl ?aP (fun _ hk => hk.elim) ?aF ?aO ?aB ?aS ?aL ?_; (case aP => exact rfl); (case aB => exact (by repeat (first | (with_reducible first | exact HB.out | apply below_alloc | apply pw_below_drewN | apply below_drew1 | refine below_set ?_ GE391.out) | exact HB.out))); (case aF => exact (fun _ _ => trivial)); (case aO => exact (by (with_reducible repeat (first | apply Kd.R_alloc | apply Kd.R_drewN | apply Kd.R_drew)); exact HO_4.out)); (case aS => exact (below_size (by repeat (first | (with_reducible first | exact HB.out | apply below_alloc | apply pw_below_drewN | apply below_drew1 | refine below_set ?_ GE391.out) | exact HB.out)))); (case aL => have := LMc65.out; omega); intro v416 w68 ho hb hg hat; rw [← Ny415.out] at ho; have n0_ := Aside0.mk (blk_grown (g := gb391) (o := .cells #[.int .i64 ((rd_T77 l0 x5_1).f0), .int .i64 ((rd_T77 l0 x5_1).f1), .int .i64 ((rd_T77 l0 x5_1).f2), .int .i64 ((rd_T77 l0 x5_1).f3)] 77 (0, 0)) (by (with_reducible repeat (first | refine blk_drewN ?_ _ | refine blk_drew ?_ | refine blk_alloc ?_ _)); exact BK391.out) hg (Kd.R_ne HO_4.out BK391.out (by decide))); have n1_ := Aside0.mk (hb); have n2_ := Aside0.mk (ho); clear BK391; clear HB; clear HO_4; have BK391 := n0_; have HB := n1_; have HO417 := n2_; clear n0_ n1_ n2_; clear ho hb hg hat))
                                go_roundg kj11
                                case measure => have := HK1.out; have := HJ5.out; have := HJ11.out; omega
                                case rel => exact ⟨(y415), (wrap64 (x5_1 + 1)), (by first | rfl | (simp; done) | (simp [*]; done)), H', ⟨by have := HK1.out; have := HJ5.out; have := HJ11.out; omega⟩, ⟨by (with_reducible repeat (first | apply Kd.R_alloc | apply Kd.R_drewN | apply Kd.R_drew)); exact HO417.out⟩, ⟨by repeat (first | (with_reducible first | exact HB.out | apply below_alloc | apply pw_below_drewN | apply below_drew1 | refine below_set ?_ GE391.out) | exact HB.out)⟩⟩
                              · rw [if_neg c65] at H
                                exact absurd H (by simp)
                          · rw [if_neg c53] at H
                            have c53b0 : ((rd x4_1 ((rd_T77 l0 x5_1).f2)) == x7_11) = false := beq_eq_false_iff_ne.mpr c53
                            have c53b1 : ((rd x4_1 ((rd_T77 l0 x5_1).f2)) != x7_11) = true := bne_iff_ne.mpr c53
                            simp only [Option.some.injEq, Prod.mk.injEq] at H
                            obtain ⟨rfl, rfl⟩ := H
                            have hcz69_0 : wc.cell? ⟨gb391, 0, none⟩ = some (.int .i64 ((rd_T77 l0 x5_1).f0)) := (blk_cell BK391.out 0).trans rfl
                            have hcz69_1 : wc.cell? ⟨gb391, 1, none⟩ = some (.int .i64 ((rd_T77 l0 x5_1).f1)) := (blk_cell BK391.out 1).trans rfl
                            have hcz69_2 : wc.cell? ⟨gb391, 2, none⟩ = some (.int .i64 ((rd_T77 l0 x5_1).f2)) := (blk_cell BK391.out 2).trans rfl
                            have hcz69_3 : wc.cell? ⟨gb391, 3, none⟩ = some (.int .i64 ((rd_T77 l0 x5_1).f3)) := (blk_cell BK391.out 3).trans rfl
                            have hfz69_0 := blk_frozen BK391.out 0
                            have hfz69_1 := blk_frozen BK391.out 1
                            have hfz69_2 := blk_frozen BK391.out 2
                            have hfz69_3 := blk_frozen BK391.out 3
                            obtain ⟨Ao70, co70, eo70⟩ := Kd.R_slice HO_4.out
                            subst eo70
                            have p409 : 0 ≤ (((rd_T77 l0 x5_1).f2) : Int) := of_decide_eq_true (by first | (with_reducible assumption) | assumption)
                            have q409 : ((rd_T77 l0 x5_1).f2) < (x4_1.length : Int) := of_decide_eq_true (by first | (with_reducible assumption) | assumption)
                            obtain ⟨ad409, e409, hx409_0⟩ := Kd.at_int (Kd.R_reads' HO_4.out).2.2 ((rd_T77 l0 x5_1).f2) p409 q409
                            cases e409
                            replace p409 := eq_true p409
                            replace q409 := eq_true q409
                            go_wp2
                            go_ret2
                            exact ⟨_, by first | rfl | (simp [errW_none, errW_some] <;> rfl) | (simp [*, errW_none, errW_some] <;> rfl), by first | exact Kd.R_nil _ _ _ _ _ | exact Kd.N_nil _ _ _ _ _ | exact Kd.V_nil _ _ _ _ _ | exact Kd.Q_nil _ _ _ _ _ | exact Kd.S_nil _ _ _ _ _, by repeat (first | (with_reducible first | exact HB.out | apply below_alloc | apply pw_below_drewN | apply below_drew1 | refine below_set ?_ GE391.out) | exact HB.out)⟩
                        · rw [if_neg c52] at H
                          exact absurd H (by simp)
                      · rw [if_neg c51] at H
                        exact absurd H (by simp)
                    · rw [if_neg c50] at H
                      have c50b0 : decide (2 < ((rd_T77 l0 x5_1).f0)) = false := decide_eq_false c50
                      clear c50
                      replace H := Option.bind_eq_some_iff.mp H
                      obtain ⟨t418, A710, H⟩ := H
                      replace H : (if t418 = true then (if 0 ≤ ((rd_T77 l0 x5_1).f3) then (if ((rd_T77 l0 x5_1).f3) < (x4_1.length : Int) then (if (rd x4_1 ((rd_T77 l0 x5_1).f3)) = x7_11 then (if x4_1.length < 17592186044416 then (spec_l3Types.l0 kj11 l0 (x4_1 ++ [1]) (wrap64 (x5_1 + 1))) else (none)) else (some (([] : List Int), false))) else (none)) else (none)) else (if x4_1.length < 17592186044416 then (spec_l3Types.l0 kj11 l0 (x4_1 ++ [1]) (wrap64 (x5_1 + 1))) else (none))) = some (r1, r2) := H
                      have A71 := Aside0.mk A710
                      clear A710
                      by_cases c72 : t418 = true
                      · subst c72
                        have H1 : (if 0 ≤ ((rd_T77 l0 x5_1).f3) then (if ((rd_T77 l0 x5_1).f3) < (x4_1.length : Int) then (if (rd x4_1 ((rd_T77 l0 x5_1).f3)) = x7_11 then (if x4_1.length < 17592186044416 then (spec_l3Types.l0 kj11 l0 (x4_1 ++ [1]) (wrap64 (x5_1 + 1))) else (none)) else (some (([] : List Int), false))) else (none)) else (none)) = some (r1, r2) := by rw [if_pos rfl] at H; exact H
                        clear H
                        have H := H1
                        clear H1
                        by_cases c73 : 0 ≤ ((rd_T77 l0 x5_1).f3)
                        · rw [if_pos c73] at H
                          have c73b0 : decide (0 ≤ ((rd_T77 l0 x5_1).f3)) = true := decide_eq_true c73
                          clear c73
                          by_cases c74 : ((rd_T77 l0 x5_1).f3) < (x4_1.length : Int)
                          · rw [if_pos c74] at H
                            have c74b0 : decide (((rd_T77 l0 x5_1).f3) < (x4_1.length : Int)) = true := decide_eq_true c74
                            clear c74
                            by_cases c75 : (rd x4_1 ((rd_T77 l0 x5_1).f3)) = x7_11
                            · rw [if_pos c75] at H
                              have c75b0 : ((rd x4_1 ((rd_T77 l0 x5_1).f3)) == x7_11) = true := beq_iff_eq.mpr c75
                              have c75b1 : ((rd x4_1 ((rd_T77 l0 x5_1).f3)) != x7_11) = false := bne_eq_false_iff_eq.mpr c75
                              clear c75
                              by_cases c76 : x4_1.length < 17592186044416
                              · rw [if_pos c76] at H
                                have LMc76 := Aside0.mk c76
                                clear c76
                                obtain ⟨y420, hy420⟩ : ∃ y_ : List Int, y_ = (x4_1 ++ [1]) := ⟨_, rfl⟩
                                replace H : (spec_l3Types.l0 kj11 l0 y420 (wrap64 (x5_1 + 1))) = some (r1, r2) := by first | (rw [hy420]; with_reducible exact H) | (have H2_ := (Option.bind_some _ _).symm.trans H; rw [hy420]; with_reducible exact H2_) | (have H2_ := (Option.bind_some _ _).symm.trans H; with_reducible exact H2_) | with_reducible exact H | (rw [hy420]; exact H) | exact H
                                have Ny420 := Aside0.mk hy420
                                clear hy420
                                have H' := Aside0.mk H
                                clear H
                                have hcz77_0 : wc.cell? ⟨gb391, 0, none⟩ = some (.int .i64 ((rd_T77 l0 x5_1).f0)) := (blk_cell BK391.out 0).trans rfl
                                have hcz77_1 : wc.cell? ⟨gb391, 1, none⟩ = some (.int .i64 ((rd_T77 l0 x5_1).f1)) := (blk_cell BK391.out 1).trans rfl
                                have hcz77_2 : wc.cell? ⟨gb391, 2, none⟩ = some (.int .i64 ((rd_T77 l0 x5_1).f2)) := (blk_cell BK391.out 2).trans rfl
                                have hcz77_3 : wc.cell? ⟨gb391, 3, none⟩ = some (.int .i64 ((rd_T77 l0 x5_1).f3)) := (blk_cell BK391.out 3).trans rfl
                                have hfz77_0 := blk_frozen BK391.out 0
                                have hfz77_1 := blk_frozen BK391.out 1
                                have hfz77_2 := blk_frozen BK391.out 2
                                have hfz77_3 := blk_frozen BK391.out 3
                                go_wp2_with (first | (go_at_call 118; (with_reducible refine (spec_l3Two.calls ((rd_T77 l0 x5_1).f0) true _ A71.out).mono ?_); rintro e w' ⟨rfl, ⟨nd, rfl⟩⟩; obtain ⟨Ao78, co78, eo78⟩ := Kd.R_slice HO_4.out; subst eo78; have p419 : 0 ≤ (((rd_T77 l0 x5_1).f3) : Int) := of_decide_eq_true (by first | (with_reducible assumption) | assumption); have q419 : ((rd_T77 l0 x5_1).f3) < (x4_1.length : Int) := of_decide_eq_true (by first | (with_reducible assumption) | assumption); obtain ⟨ad419, e419, hx419_0⟩ := Kd.at_int (Kd.R_reads' HO_4.out).2.2 ((rd_T77 l0 x5_1).f3) p419 q419; cases e419; replace p419 := eq_true p419; replace q419 := eq_true q419) | ((with_reducible refine gate_builtin (b := .append) (xs := #[.tmp 57, .tmp 59]) rfl ?_); at_builtin; refine Kd.R_append (Kd.int .i64) (w0 := w) w.heap.size rfl (.tmp 57) (.tmp 59) 25 2 (.int .i64 0) 8 rfl Try.underlying25 info2 rfl (by decide) (by omega) (.slice (some ad419) x4_1.length co78) x4_1 1 [.int .i64 1] (fun _ => True) (fun _ => False) rfl rfl ?aP (fun _ hk => hk.elim) ?aF ?aO ?aB ?aS ?aL ?_; (case aP => exact rfl); (case aB => exact (by repeat (first | (with_reducible first | exact HB.out | apply below_alloc | apply pw_below_drewN | apply below_drew1 | refine below_set ?_ GE391.out) | exact HB.out))); (case aF => exact (fun _ _ => trivial)); (case aO => exact (by (with_reducible repeat (first | apply Kd.R_alloc | apply Kd.R_drewN | apply Kd.R_drew)); exact HO_4.out)); (case aS => exact (below_size (by repeat (first | (with_reducible first | exact HB.out | apply below_alloc | apply pw_below_drewN | apply below_drew1 | refine below_set ?_ GE391.out) | exact HB.out)))); (case aL => have := LMc76.out; omega); intro v421 w79 ho hb hg hat; rw [← Ny420.out] at ho; have n0_ := Aside0.mk (blk_grown (g := gb391) (o := .cells #[.int .i64 ((rd_T77 l0 x5_1).f0), .int .i64 ((rd_T77 l0 x5_1).f1), .int .i64 ((rd_T77 l0 x5_1).f2), .int .i64 ((rd_T77 l0 x5_1).f3)] 77 (0, 0)) (by (with_reducible repeat (first | refine blk_drewN ?_ _ | refine blk_drew ?_ | refine blk_alloc ?_ _)); exact BK391.out) hg (Kd.R_ne HO_4.out BK391.out (by decide))); have n1_ := Aside0.mk (hb); have n2_ := Aside0.mk (ho); clear BK391; clear HB; clear HO_4; have BK391 := n0_; have HB := n1_; have HO422 := n2_; clear n0_ n1_ n2_; clear ho hb hg hat))
                                go_roundg kj11
                                case measure => have := HK1.out; have := HJ5.out; have := HJ11.out; omega
                                case rel => exact ⟨(y420), (wrap64 (x5_1 + 1)), (by first | rfl | (simp; done) | (simp [*]; done)), H', ⟨by have := HK1.out; have := HJ5.out; have := HJ11.out; omega⟩, ⟨by (with_reducible repeat (first | apply Kd.R_alloc | apply Kd.R_drewN | apply Kd.R_drew)); exact HO422.out⟩, ⟨by repeat (first | (with_reducible first | exact HB.out | apply below_alloc | apply pw_below_drewN | apply below_drew1 | refine below_set ?_ GE391.out) | exact HB.out)⟩⟩
                              · rw [if_neg c76] at H
                                exact absurd H (by simp)
                            · rw [if_neg c75] at H
                              have c75b0 : ((rd x4_1 ((rd_T77 l0 x5_1).f3)) == x7_11) = false := beq_eq_false_iff_ne.mpr c75
                              have c75b1 : ((rd x4_1 ((rd_T77 l0 x5_1).f3)) != x7_11) = true := bne_iff_ne.mpr c75
                              simp only [Option.some.injEq, Prod.mk.injEq] at H
                              obtain ⟨rfl, rfl⟩ := H
                              have hcz80_0 : wc.cell? ⟨gb391, 0, none⟩ = some (.int .i64 ((rd_T77 l0 x5_1).f0)) := (blk_cell BK391.out 0).trans rfl
                              have hcz80_1 : wc.cell? ⟨gb391, 1, none⟩ = some (.int .i64 ((rd_T77 l0 x5_1).f1)) := (blk_cell BK391.out 1).trans rfl
                              have hcz80_2 : wc.cell? ⟨gb391, 2, none⟩ = some (.int .i64 ((rd_T77 l0 x5_1).f2)) := (blk_cell BK391.out 2).trans rfl
                              have hcz80_3 : wc.cell? ⟨gb391, 3, none⟩ = some (.int .i64 ((rd_T77 l0 x5_1).f3)) := (blk_cell BK391.out 3).trans rfl
                              have hfz80_0 := blk_frozen BK391.out 0
                              have hfz80_1 := blk_frozen BK391.out 1
                              have hfz80_2 := blk_frozen BK391.out 2
                              have hfz80_3 := blk_frozen BK391.out 3
                              go_wp2_with (first | (go_at_call 118; (with_reducible refine (spec_l3Two.calls ((rd_T77 l0 x5_1).f0) true _ A71.out).mono ?_); rintro e w' ⟨rfl, ⟨nd, rfl⟩⟩; obtain ⟨Ao81, co81, eo81⟩ := Kd.R_slice HO_4.out; subst eo81; have p419 : 0 ≤ (((rd_T77 l0 x5_1).f3) : Int) := of_decide_eq_true (by first | (with_reducible assumption) | assumption); have q419 : ((rd_T77 l0 x5_1).f3) < (x4_1.length : Int) := of_decide_eq_true (by first | (with_reducible assumption) | assumption); obtain ⟨ad419, e419, hx419_0⟩ := Kd.at_int (Kd.R_reads' HO_4.out).2.2 ((rd_T77 l0 x5_1).f3) p419 q419; cases e419; replace p419 := eq_true p419; replace q419 := eq_true q419))
                              go_ret2
                              exact ⟨_, by first | rfl | (simp [errW_none, errW_some] <;> rfl) | (simp [*, errW_none, errW_some] <;> rfl), by first | exact Kd.R_nil _ _ _ _ _ | exact Kd.N_nil _ _ _ _ _ | exact Kd.V_nil _ _ _ _ _ | exact Kd.Q_nil _ _ _ _ _ | exact Kd.S_nil _ _ _ _ _, by repeat (first | (with_reducible first | exact HB.out | apply below_alloc | apply pw_below_drewN | apply below_drew1 | refine below_set ?_ GE391.out) | exact HB.out)⟩
                          · rw [if_neg c74] at H
                            exact absurd H (by simp)
                        · rw [if_neg c73] at H
                          exact absurd H (by simp)
                      · replace c72 := Bool.eq_false_iff.mpr c72
                        subst c72
                        have H1 : (if x4_1.length < 17592186044416 then (spec_l3Types.l0 kj11 l0 (x4_1 ++ [1]) (wrap64 (x5_1 + 1))) else (none)) = some (r1, r2) := by rw [if_neg (show ¬ (false = true) by decide)] at H; exact H
                        clear H
                        have H := H1
                        clear H1
                        by_cases c82 : x4_1.length < 17592186044416
                        · rw [if_pos c82] at H
                          have LMc82 := Aside0.mk c82
                          clear c82
                          obtain ⟨y423, hy423⟩ : ∃ y_ : List Int, y_ = (x4_1 ++ [1]) := ⟨_, rfl⟩
                          replace H : (spec_l3Types.l0 kj11 l0 y423 (wrap64 (x5_1 + 1))) = some (r1, r2) := by first | (rw [hy423]; with_reducible exact H) | (have H2_ := (Option.bind_some _ _).symm.trans H; rw [hy423]; with_reducible exact H2_) | (have H2_ := (Option.bind_some _ _).symm.trans H; with_reducible exact H2_) | with_reducible exact H | (rw [hy423]; exact H) | exact H
                          have Ny423 := Aside0.mk hy423
                          clear hy423
                          have H' := Aside0.mk H
                          clear H
                          have hcz83_0 : wc.cell? ⟨gb391, 0, none⟩ = some (.int .i64 ((rd_T77 l0 x5_1).f0)) := (blk_cell BK391.out 0).trans rfl
                          have hcz83_1 : wc.cell? ⟨gb391, 1, none⟩ = some (.int .i64 ((rd_T77 l0 x5_1).f1)) := (blk_cell BK391.out 1).trans rfl
                          have hcz83_2 : wc.cell? ⟨gb391, 2, none⟩ = some (.int .i64 ((rd_T77 l0 x5_1).f2)) := (blk_cell BK391.out 2).trans rfl
                          have hcz83_3 : wc.cell? ⟨gb391, 3, none⟩ = some (.int .i64 ((rd_T77 l0 x5_1).f3)) := (blk_cell BK391.out 3).trans rfl
                          have hfz83_0 := blk_frozen BK391.out 0
                          have hfz83_1 := blk_frozen BK391.out 1
                          have hfz83_2 := blk_frozen BK391.out 2
                          have hfz83_3 := blk_frozen BK391.out 3
                          go_wp2_with (first | (go_at_call 118; (with_reducible refine (spec_l3Two.calls ((rd_T77 l0 x5_1).f0) false _ A71.out).mono ?_); rintro e w' ⟨rfl, ⟨nd, rfl⟩⟩) | ((with_reducible refine gate_builtin (b := .append) (xs := #[.tmp 57, .tmp 59]) rfl ?_); at_builtin; refine Kd.R_append (Kd.int .i64) (w0 := w) w.heap.size rfl (.tmp 57) (.tmp 59) 25 2 (.int .i64 0) 8 rfl Try.underlying25 info2 rfl (by decide) (by omega) u4 x4_1 1 [.int .i64 1] (fun _ => True) (fun _ => False) rfl rfl ?aP (fun _ hk => hk.elim) ?aF ?aO ?aB ?aS ?aL ?_; (case aP => exact rfl); (case aB => exact (by repeat (first | (with_reducible first | exact HB.out | apply below_alloc | apply pw_below_drewN | apply below_drew1 | refine below_set ?_ GE391.out) | exact HB.out))); (case aF => exact (fun _ _ => trivial)); (case aO => exact (by (with_reducible repeat (first | apply Kd.R_alloc | apply Kd.R_drewN | apply Kd.R_drew)); exact HO_4.out)); (case aS => exact (below_size (by repeat (first | (with_reducible first | exact HB.out | apply below_alloc | apply pw_below_drewN | apply below_drew1 | refine below_set ?_ GE391.out) | exact HB.out)))); (case aL => have := LMc82.out; omega); intro v424 w84 ho hb hg hat; rw [← Ny423.out] at ho; have n0_ := Aside0.mk (blk_grown (g := gb391) (o := .cells #[.int .i64 ((rd_T77 l0 x5_1).f0), .int .i64 ((rd_T77 l0 x5_1).f1), .int .i64 ((rd_T77 l0 x5_1).f2), .int .i64 ((rd_T77 l0 x5_1).f3)] 77 (0, 0)) (by (with_reducible repeat (first | refine blk_drewN ?_ _ | refine blk_drew ?_ | refine blk_alloc ?_ _)); exact BK391.out) hg (Kd.R_ne HO_4.out BK391.out (by decide))); have n1_ := Aside0.mk (hb); have n2_ := Aside0.mk (ho); clear BK391; clear HB; clear HO_4; have BK391 := n0_; have HB := n1_; have HO425 := n2_; clear n0_ n1_ n2_; clear ho hb hg hat))
                          go_roundg kj11
                          case measure => have := HK1.out; have := HJ5.out; have := HJ11.out; omega
                          case rel => exact ⟨(y423), (wrap64 (x5_1 + 1)), (by first | rfl | (simp; done) | (simp [*]; done)), H', ⟨by have := HK1.out; have := HJ5.out; have := HJ11.out; omega⟩, ⟨by (with_reducible repeat (first | apply Kd.R_alloc | apply Kd.R_drewN | apply Kd.R_drew)); exact HO425.out⟩, ⟨by repeat (first | (with_reducible first | exact HB.out | apply below_alloc | apply pw_below_drewN | apply below_drew1 | refine below_set ?_ GE391.out) | exact HB.out)⟩⟩
                        · rw [if_neg c82] at H
                          exact absurd H (by simp)
        · rw [if_neg c5] at H
          exact absurd H (by simp)
      · rw [if_neg c4] at H
        have c4b0 : decide (x5_1 < (l0.length : Int)) = false := decide_eq_false c4
        clear c4
        simp only [Option.some.injEq, Prod.mk.injEq] at H
        obtain ⟨rfl, rfl⟩ := H
        go_wp2
        go_ret2
        exact ⟨_, by first | rfl | (simp [errW_none, errW_some] <;> rfl) | (simp [*, errW_none, errW_some] <;> rfl), by (with_reducible repeat (first | apply Kd.R_alloc | apply Kd.R_drewN | apply Kd.R_drew)); exact HO_4.out, by repeat (first | (with_reducible first | exact HB.out | apply below_alloc | apply pw_below_drewN | apply below_drew1) | exact HB.out)⟩

/-! ### spec_l3Type: function 77 -/
def spec_l3Type.f (k : Nat) (l0 : List (S77)) : Option (Int × Int) := (spec_l3Fault.f k l0).bind fun t426 => (if t426 = 0 then ((spec_l3Types.f k l0).bind fun bt427 => (if bt427.2 = true then (if 0 ≤ (wrap64 ((bt427.1.length : Int) - 1)) then (if (wrap64 ((bt427.1.length : Int) - 1)) < (bt427.1.length : Int) then (some (rd bt427.1 (wrap64 ((bt427.1.length : Int) - 1)), 0)) else (none)) else (none)) else (some (0, 7)))) else (some (0, t426)))
theorem spec_l3Type.mono : ∀ a0 k, LeO (spec_l3Type.f k a0) (spec_l3Type.f (k + 1) a0) := by
  intro a0 k
  unfold spec_l3Type.f
  repeat' first
      | (with_reducible exact spec_l3Fault.mono _ _)
      | (with_reducible exact spec_l3Types.mono _ _)
      | (with_reducible exact LeO.refl _)
      | (with_reducible exact LeO.none _)
      | (with_reducible refine LeO.ite ?_ ?_)
      | (with_reducible refine LeO.bind ?_ (fun _ => ?_))
      | exact spec_l3Fault.mono _ _
      | exact spec_l3Types.mono _ _
      | exact LeO.none _
      | refine LeO.ite ?_ ?_
      | refine LeO.bind ?_ (fun _ => ?_)
set_option maxHeartbeats 8000000 in
set_option maxRecDepth 100000 in
theorem spec_l3Type.calls (k : Nat) (A0 : Option Addr) (c0 : Nat) (l0 : List (S77)) (r1 : Int) (r2 : Int) (w : World) (hr0 : Kd.C k77 w A0 l0.length l0) (hc0 : l0.length ≤ c0) (h : spec_l3Type.f k l0 = some (r1, r2)) :
    Calls Try.prog 77 #[.slice A0 l0.length c0] w fun e w' => e = .returned (.tuple #[.int .i64 r1, .int .i64 r2]) ∧ Below w.heap.size w w' := by
  have HR0 := Aside0.mk hr0
  have HC0 := Aside0.mk hc0
  clear hr0 hc0
  have HB := Aside0.mk (Below.refl w.heap.size w)
  have H : ((spec_l3Fault.f k l0).bind fun t426 => (if t426 = 0 then ((spec_l3Types.f k l0).bind fun bt427 => (if bt427.2 = true then (if 0 ≤ (wrap64 ((bt427.1.length : Int) - 1)) then (if (wrap64 ((bt427.1.length : Int) - 1)) < (bt427.1.length : Int) then (some (rd bt427.1 (wrap64 ((bt427.1.length : Int) - 1)), 0)) else (none)) else (none)) else (some (0, 7)))) else (some (0, t426)))) = some (r1, r2) := h
  clear h
  replace H := Option.bind_eq_some_iff.mp H
  obtain ⟨t426, A20, H⟩ := H
  replace H : (if t426 = 0 then ((spec_l3Types.f k l0).bind fun bt427 => (if bt427.2 = true then (if 0 ≤ (wrap64 ((bt427.1.length : Int) - 1)) then (if (wrap64 ((bt427.1.length : Int) - 1)) < (bt427.1.length : Int) then (some (rd bt427.1 (wrap64 ((bt427.1.length : Int) - 1)), 0)) else (none)) else (none)) else (some (0, 7)))) else (some (0, t426))) = some (r1, r2) := H
  have A2 := Aside0.mk A20
  clear A20
  by_cases c3 : t426 = 0
  · rw [if_pos c3] at H
    have c3b0 : (t426 == 0) = true := beq_iff_eq.mpr c3
    have c3b1 : (t426 != 0) = false := bne_eq_false_iff_eq.mpr c3
    clear c3
    replace H := Option.bind_eq_some_iff.mp H
    obtain ⟨⟨t427, t428⟩, A40, H⟩ := H
    replace H : (if t428 = true then (if 0 ≤ (wrap64 ((t427.length : Int) - 1)) then (if (wrap64 ((t427.length : Int) - 1)) < (t427.length : Int) then (some (rd t427 (wrap64 ((t427.length : Int) - 1)), 0)) else (none)) else (none)) else (some (0, 7))) = some (r1, r2) := H
    have A4 := Aside0.mk A40
    clear A40
    by_cases c5 : t428 = true
    · subst c5
      have H1 : (if 0 ≤ (wrap64 ((t427.length : Int) - 1)) then (if (wrap64 ((t427.length : Int) - 1)) < (t427.length : Int) then (some (rd t427 (wrap64 ((t427.length : Int) - 1)), 0)) else (none)) else (none)) = some (r1, r2) := by rw [if_pos rfl] at H; exact H
      clear H
      have H := H1
      clear H1
      obtain ⟨ji6, hji6⟩ : ∃ j_ : Int, (wrap64 ((t427.length : Int) - 1)) = j_ := ⟨_, rfl⟩
      replace H : (if 0 ≤ (ji6) then (if (ji6) < (t427.length : Int) then (some (rd t427 (ji6), 0)) else (none)) else (none)) = some (r1, r2) := by first | (rw [hji6] at H; exact H) | (simp only [hji6] at H ⊢; exact H)
      (try rw [hji6] at A2)
      (try rw [hji6] at A4)
      have hji6w : (IntKind.i64.wrap ((t427.length : Int) - 1)) = ji6 := (i64_w _).trans hji6
      by_cases c7 : 0 ≤ (ji6)
      · rw [if_pos c7] at H
        have c7b0 : decide (0 ≤ (ji6)) = true := decide_eq_true c7
        clear c7
        by_cases c8 : (ji6) < (t427.length : Int)
        · rw [if_pos c8] at H
          have c8b0 : decide ((ji6) < (t427.length : Int)) = true := decide_eq_true c8
          clear c8
          simp only [Option.some.injEq, Prod.mk.injEq] at H
          obtain ⟨rfl, rfl⟩ := H
          go_enter Try.func77, Try.ntmps77
          go_wp2_with (first | ((with_reducible refine gate_callee (f := 59) rfl ?_); refine goesL_ (some 8) rfl rfl Try.func59 (by kernel_rfl) rfl #[.slice A0 l0.length c0] rfl (by (try simp only [List.map_toArray, List.map_cons, List.map_nil]); first | done | rfl | (simp only [List.length_drop, List.length_take]; rfl)) ?_; (with_reducible refine (spec_l3Fault.calls k _ _ l0 t426 _ ?side1 ?side2 A2.out).mono ?_); (case side1 => repeat (first | exact HR0.out | (with_reducible refine Kd.C_alloc ?_ _) | (with_reducible refine Kd.C_drewN ?_ _) | (with_reducible refine Kd.C_drew ?_))); (case side2 => exact HC0.out); rintro e w9 ⟨rfl, hb⟩; refine ⟨_, rfl, ?_⟩; have n0_ := Aside0.mk (below_step (by repeat (first | (with_reducible first | exact HB.out | apply below_alloc | apply pw_below_drewN | apply below_drew1) | exact HB.out)) hb); clear HB; have HB := n0_; clear n0_; (try clear hb); (try clear hb2); (try clear hk); (try clear hi)) | ((with_reducible refine gate_callee (f := 105) rfl ?_); refine goesL_ (some 14) rfl rfl Try.func105 (by kernel_rfl) rfl #[.slice A0 l0.length c0] rfl (by (try simp only [List.map_toArray, List.map_cons, List.map_nil]); first | done | rfl | (simp only [List.length_drop, List.length_take]; rfl)) ?_; (with_reducible refine (spec_l3Types.calls k _ _ l0 t427 true _ ?side1 ?side2 A4.out).mono ?_); (case side1 => repeat (first | exact (Kd.C_below HR0.out HB.out) | (with_reducible refine Kd.C_alloc ?_ _) | (with_reducible refine Kd.C_drewN ?_ _) | (with_reducible refine Kd.C_drew ?_))); (case side2 => exact HC0.out); rintro e w10 ⟨v429, rfl, ho0, hb⟩; refine ⟨_, rfl, ?_⟩; have n0_ := Aside0.mk (Kd.R_lower ho0 (below_size (by repeat (first | (with_reducible first | exact HB.out | apply below_alloc | apply pw_below_drewN | apply below_drew1) | exact HB.out)))); have n1_ := Aside0.mk (below_step (by repeat (first | (with_reducible first | exact HB.out | apply below_alloc | apply pw_below_drewN | apply below_drew1) | exact HB.out)) hb); clear HB; have HO430 := n0_; have HB := n1_; clear n0_ n1_; (try clear hb); (try clear hb2); (try clear hk); (try clear hi); (try clear ho0); obtain ⟨Ao11, co11, eo11⟩ := Kd.R_slice HO430.out; subst eo11; have p431 : 0 ≤ ((ji6) : Int) := of_decide_eq_true (by first | (with_reducible assumption) | assumption); have q431 : (ji6) < (t427.length : Int) := of_decide_eq_true (by first | (with_reducible assumption) | assumption); obtain ⟨ad431, e431, hx431_0⟩ := Kd.at_int (Kd.R_reads' HO430.out).2.2 (ji6) p431 q431; cases e431; replace p431 := eq_true p431; replace q431 := eq_true q431))
          go_ret2
          exact ⟨by first | rfl | (simp [errW_none, errW_some] <;> rfl) | (simp only [← hji6]; first | rfl | (simp [errW_none, errW_some] <;> rfl)) | (simp [*, errW_none, errW_some] <;> rfl), by repeat (first | (with_reducible first | exact HB.out | apply below_alloc | apply pw_below_drewN | apply below_drew1) | exact HB.out)⟩
        · rw [if_neg c8] at H
          exact absurd H (by simp)
      · rw [if_neg c7] at H
        exact absurd H (by simp)
    · replace c5 := Bool.eq_false_iff.mpr c5
      subst c5
      have H1 : (some (0, 7)) = some (r1, r2) := by rw [if_neg (show ¬ (false = true) by decide)] at H; exact H
      clear H
      have H := H1
      clear H1
      simp only [Option.some.injEq, Prod.mk.injEq] at H
      obtain ⟨rfl, rfl⟩ := H
      go_enter Try.func77, Try.ntmps77
      go_wp2_with (first | ((with_reducible refine gate_callee (f := 59) rfl ?_); refine goesL_ (some 8) rfl rfl Try.func59 (by kernel_rfl) rfl #[.slice A0 l0.length c0] rfl (by (try simp only [List.map_toArray, List.map_cons, List.map_nil]); first | done | rfl | (simp only [List.length_drop, List.length_take]; rfl)) ?_; (with_reducible refine (spec_l3Fault.calls k _ _ l0 t426 _ ?side1 ?side2 A2.out).mono ?_); (case side1 => repeat (first | exact HR0.out | (with_reducible refine Kd.C_alloc ?_ _) | (with_reducible refine Kd.C_drewN ?_ _) | (with_reducible refine Kd.C_drew ?_))); (case side2 => exact HC0.out); rintro e w12 ⟨rfl, hb⟩; refine ⟨_, rfl, ?_⟩; have n0_ := Aside0.mk (below_step (by repeat (first | (with_reducible first | exact HB.out | apply below_alloc | apply pw_below_drewN | apply below_drew1) | exact HB.out)) hb); clear HB; have HB := n0_; clear n0_; (try clear hb); (try clear hb2); (try clear hk); (try clear hi)) | ((with_reducible refine gate_callee (f := 105) rfl ?_); refine goesL_ (some 14) rfl rfl Try.func105 (by kernel_rfl) rfl #[.slice A0 l0.length c0] rfl (by (try simp only [List.map_toArray, List.map_cons, List.map_nil]); first | done | rfl | (simp only [List.length_drop, List.length_take]; rfl)) ?_; (with_reducible refine (spec_l3Types.calls k _ _ l0 t427 false _ ?side1 ?side2 A4.out).mono ?_); (case side1 => repeat (first | exact (Kd.C_below HR0.out HB.out) | (with_reducible refine Kd.C_alloc ?_ _) | (with_reducible refine Kd.C_drewN ?_ _) | (with_reducible refine Kd.C_drew ?_))); (case side2 => exact HC0.out); rintro e w13 ⟨v429, rfl, ho0, hb⟩; refine ⟨_, rfl, ?_⟩; have n0_ := Aside0.mk (Kd.R_lower ho0 (below_size (by repeat (first | (with_reducible first | exact HB.out | apply below_alloc | apply pw_below_drewN | apply below_drew1) | exact HB.out)))); have n1_ := Aside0.mk (below_step (by repeat (first | (with_reducible first | exact HB.out | apply below_alloc | apply pw_below_drewN | apply below_drew1) | exact HB.out)) hb); clear HB; have HO430 := n0_; have HB := n1_; clear n0_ n1_; (try clear hb); (try clear hb2); (try clear hk); (try clear hi); (try clear ho0)))
      go_ret2
      exact ⟨by first | rfl | (simp [errW_none, errW_some] <;> rfl) | (simp [*, errW_none, errW_some] <;> rfl), by repeat (first | (with_reducible first | exact HB.out | apply below_alloc | apply pw_below_drewN | apply below_drew1) | exact HB.out)⟩
  · rw [if_neg c3] at H
    have c3b0 : (t426 == 0) = false := beq_eq_false_iff_ne.mpr c3
    have c3b1 : (t426 != 0) = true := bne_iff_ne.mpr c3
    simp only [Option.some.injEq, Prod.mk.injEq] at H
    obtain ⟨rfl, rfl⟩ := H
    go_enter Try.func77, Try.ntmps77
    go_wp2_with (first | ((with_reducible refine gate_callee (f := 59) rfl ?_); refine goesL_ (some 8) rfl rfl Try.func59 (by kernel_rfl) rfl #[.slice A0 l0.length c0] rfl (by (try simp only [List.map_toArray, List.map_cons, List.map_nil]); first | done | rfl | (simp only [List.length_drop, List.length_take]; rfl)) ?_; (with_reducible refine (spec_l3Fault.calls k _ _ l0 t426 _ ?side1 ?side2 A2.out).mono ?_); (case side1 => repeat (first | exact HR0.out | (with_reducible refine Kd.C_alloc ?_ _) | (with_reducible refine Kd.C_drewN ?_ _) | (with_reducible refine Kd.C_drew ?_))); (case side2 => exact HC0.out); rintro e w14 ⟨rfl, hb⟩; refine ⟨_, rfl, ?_⟩; have n0_ := Aside0.mk (below_step (by repeat (first | (with_reducible first | exact HB.out | apply below_alloc | apply pw_below_drewN | apply below_drew1) | exact HB.out)) hb); clear HB; have HB := n0_; clear n0_; (try clear hb); (try clear hb2); (try clear hk); (try clear hi)))
    go_ret2
    exact ⟨by first | rfl | (simp [errW_none, errW_some] <;> rfl) | (simp [*, errW_none, errW_some] <;> rfl), by repeat (first | (with_reducible first | exact HB.out | apply below_alloc | apply pw_below_drewN | apply below_drew1) | exact HB.out)⟩

/-! ### spec_TypeOf: function 37 -/
def spec_TypeOf.f (k : Nat) (l0 : List (S77)) : Option (Int × Int) := (spec_l3Type.f k l0).bind fun bt433 => (some (bt433.2, bt433.1))
theorem spec_TypeOf.mono : ∀ a0 k, LeO (spec_TypeOf.f k a0) (spec_TypeOf.f (k + 1) a0) := by
  intro a0 k
  unfold spec_TypeOf.f
  repeat' first
      | (with_reducible exact spec_l3Type.mono _ _)
      | (with_reducible exact LeO.refl _)
      | (with_reducible exact LeO.none _)
      | (with_reducible refine LeO.ite ?_ ?_)
      | (with_reducible refine LeO.bind ?_ (fun _ => ?_))
      | exact spec_l3Type.mono _ _
      | exact LeO.none _
      | refine LeO.ite ?_ ?_
      | refine LeO.bind ?_ (fun _ => ?_)
set_option maxHeartbeats 8000000 in
set_option maxRecDepth 100000 in
theorem spec_TypeOf.calls (k : Nat) (A0 : Option Addr) (c0 : Nat) (l0 : List (S77)) (r1 : Int) (r2 : Int) (w : World) (hr0 : Kd.C k77 w A0 l0.length l0) (hc0 : l0.length ≤ c0) (h : spec_TypeOf.f k l0 = some (r1, r2)) :
    Calls Try.prog 37 #[.slice A0 l0.length c0] w fun e w' => e = .returned (.agg #[.int .i64 r1, .int .i64 r2]) ∧ Below w.heap.size w w' := by
  have hu50 := Try.underlying50
  have HR0 := Aside0.mk hr0
  have HC0 := Aside0.mk hc0
  clear hr0 hc0
  have HB := Aside0.mk (Below.refl w.heap.size w)
  have H : ((spec_l3Type.f k l0).bind fun bt433 => (some (bt433.2, bt433.1))) = some (r1, r2) := h
  clear h
  replace H := Option.bind_eq_some_iff.mp H
  obtain ⟨⟨t433, t434⟩, A20, H⟩ := H
  replace H : (some (t434, t433)) = some (r1, r2) := H
  have A2 := Aside0.mk A20
  clear A20
  simp only [Option.some.injEq, Prod.mk.injEq] at H
  obtain ⟨rfl, rfl⟩ := H
  go_enter Try.func37, Try.ntmps37
  go_wp2_with (first | ((with_reducible refine gate_dst (N := 2) rfl ?_); refine box_event ?hg (N := 2) ?hd (cs := #[.int .i64 0, .int .i64 0]) (t := 50) ?hr ?_; (case hd => rfl); (case hg => rfl); (case hr => first | (go_simp; done) | (go_simp; rfl)); intro gb432 hg w3 hbox hb; have n0_ := Aside0.mk (below_step (by repeat (first | (with_reducible first | exact HB.out | apply below_alloc | apply pw_below_drewN | apply below_drew1) | exact HB.out)) hb); have n1_ := Aside0.mk (hbox); have n2_ := Aside0.mk ((by rw [hg]; exact (below_size (by repeat (first | (with_reducible first | exact HB.out | apply below_alloc | apply pw_below_drewN | apply below_drew1) | exact HB.out))) : w.heap.size ≤ gb432)); have n3_ := Aside0.mk ((by rw [hg]; exact (below_size (by repeat (first | (with_reducible first | exact HB.out | apply below_alloc | apply pw_below_drewN | apply below_drew1) | exact HB.out))) : w.heap.size ≤ gb432)); clear HB; have HB := n0_; have BK432 := n1_; have GW432 := n2_; have GE432 := n3_; clear n0_ n1_ n2_ n3_; clear hb hbox hg) | ((with_reducible refine gate_callee (f := 77) rfl ?_); refine goesL_ (some 7) rfl rfl Try.func77 (by kernel_rfl) rfl #[.slice A0 l0.length c0] rfl (by (try simp only [List.map_toArray, List.map_cons, List.map_nil]); first | done | rfl | (simp only [List.length_drop, List.length_take]; rfl)) ?_; (with_reducible refine (spec_l3Type.calls k _ _ l0 t433 t434 _ ?side1 ?side2 A2.out).mono ?_); (case side1 => repeat (first | exact (Kd.C_below HR0.out HB.out) | (with_reducible refine Kd.C_alloc ?_ _) | (with_reducible refine Kd.C_drewN ?_ _) | (with_reducible refine Kd.C_drew ?_))); (case side2 => exact HC0.out); rintro e w4 ⟨rfl, hb⟩; refine ⟨_, rfl, ?_⟩; have n0_ := Aside0.mk (blk_below (g := gb432) (o := .cells #[.int .i64 0, .int .i64 0] 50 (0, 0)) (by (with_reducible repeat (first | refine blk_drewN ?_ _ | refine blk_drew ?_ | refine blk_alloc ?_ _)); exact BK432.out) hb); have n1_ := Aside0.mk (below_step (by repeat (first | (with_reducible first | exact HB.out | apply below_alloc | apply pw_below_drewN | apply below_drew1 | refine below_set ?_ GE432.out) | exact HB.out)) hb); clear BK432; clear HB; have BK432 := n0_; have HB := n1_; clear n0_ n1_; (try clear hb); (try clear hb2); (try clear hk); (try clear hi); have hcz5_0 : w4.cell? ⟨gb432, 0, none⟩ = some (.int .i64 0) := (blk_cell BK432.out 0).trans rfl; have hcz5_1 : w4.cell? ⟨gb432, 1, none⟩ = some (.int .i64 0) := (blk_cell BK432.out 1).trans rfl; have hfz5_0 := blk_frozen BK432.out 0; have hfz5_1 := blk_frozen BK432.out 1))
  refine bodyPost_ret (results_cell_row rfl _ _ gb432 50 #[.int .i64 t434, .int .i64 t433] (0, 0) _ rfl (by (with_reducible repeat (first | refine blk_drewN ?_ _ | refine blk_drew ?_ | refine blk_alloc ?_ _)); refine blk_put (cs := #[.int .i64 t434, .int .i64 0]) ?_ 1 _ rfl; (with_reducible repeat (first | refine blk_drewN ?_ _ | refine blk_drew ?_ | refine blk_alloc ?_ _)); refine blk_put (cs := #[.int .i64 0, .int .i64 0]) ?_ 0 _ rfl; (with_reducible repeat (first | refine blk_drewN ?_ _ | refine blk_drew ?_ | refine blk_alloc ?_ _)); exact BK432.out) Try.underlying50 rfl (by kernel_rfl)) rfl ?_
  exact ⟨by first | rfl | (simp [errW_none, errW_some] <;> rfl) | (simp [*, errW_none, errW_some] <;> rfl), by repeat (first | (with_reducible first | exact HB.out | apply below_alloc | apply pw_below_drewN | apply below_drew1 | refine below_set ?_ GE432.out) | exact HB.out)⟩

/-! ### impl_partType: function 78 -/
def impl_partType.f (a0 : Int) : Option (Int × Int) := if a0 ≤ 6 then (some (1, 1)) else (if a0 ≤ 8 then (some (1, 2)) else (some (2, 2)))
set_option maxHeartbeats 8000000 in
set_option maxRecDepth 100000 in
theorem impl_partType.calls (a0 : Int) (r1 : Int) (r2 : Int) (w : World) (h : impl_partType.f a0 = some (r1, r2)) :
    Calls Try.prog 78 #[.int .i64 a0] w fun e w' => e = .returned (.tuple #[.int .i64 r1, .int .i64 r2]) ∧ Drawn0 w w' := by
  have H : (if a0 ≤ 6 then (some (1, 1)) else (if a0 ≤ 8 then (some (1, 2)) else (some (2, 2)))) = some (r1, r2) := h
  clear h
  by_cases c2 : a0 ≤ 6
  · rw [if_pos c2] at H
    have c2b0 : decide (a0 ≤ 6) = true := decide_eq_true c2
    clear c2
    simp only [Option.some.injEq, Prod.mk.injEq] at H
    obtain ⟨rfl, rfl⟩ := H
    go_enter Try.func78, Try.ntmps78
    go_wp2
    go_ret2
    exact ⟨by first | rfl | (simp; done) | (simp [*]; done), by repeat (first | exact Drawn0.refl _ | apply Drawn0.step)⟩
  · rw [if_neg c2] at H
    have c2b0 : decide (a0 ≤ 6) = false := decide_eq_false c2
    clear c2
    by_cases c3 : a0 ≤ 8
    · rw [if_pos c3] at H
      have c3b0 : decide (a0 ≤ 8) = true := decide_eq_true c3
      clear c3
      simp only [Option.some.injEq, Prod.mk.injEq] at H
      obtain ⟨rfl, rfl⟩ := H
      go_enter Try.func78, Try.ntmps78
      go_wp2
      go_ret2
      exact ⟨by first | rfl | (simp; done) | (simp [*]; done), by repeat (first | exact Drawn0.refl _ | apply Drawn0.step)⟩
    · rw [if_neg c3] at H
      have c3b0 : decide (a0 ≤ 8) = false := decide_eq_false c3
      clear c3
      simp only [Option.some.injEq, Prod.mk.injEq] at H
      obtain ⟨rfl, rfl⟩ := H
      go_enter Try.func78, Try.ntmps78
      go_wp2
      go_ret2
      exact ⟨by first | rfl | (simp; done) | (simp [*]; done), by repeat (first | exact Drawn0.refl _ | apply Drawn0.step)⟩

end Go.Proofs.Ytjlcajhlggoleaa.Q
