-- Written by a program of this session's own (xp.py) for this seat.
import Derived.Test.YtfgidohkkbmfjaaQ0
import Derived.Test.YtfgidohkkbmfjaaQ1
namespace Go.Proofs.Ytfgidohkkbmfjaa.Q
open Go.RowKit Go.Proofs.YtfgidohkkbmfjaaW.PrintWords Go.Proofs.YtfgidohkkbmfjaaW.PrintLast Go.Proofs.YtfgidohkkbmfjaaW.PrintMore
attribute [local go_sem] max2_int min2_int max_two min_two max_three min_three max_four min_four   -- for this text's walks alone
set_option linter.unusedVariables false
set_option linter.unusedSimpArgs false

/-! ### spec_l3Types: function 48 -/
mutual
def spec_l3Types.l0 : Nat → List (S54) → List Int → Int → Option (List Int × Bool)
  | 0, _, _, _ => none
  | k + 1, x0, x4, x5 => if x5 < (x0.length : Int) then (if 0 ≤ x5 then (if ((rd_T54 x0 x5).f0) = 9 then (spec_l3Types.j1 k x0 x4 x5 1 1 true ((rd_T54 x0 x5).f0) ((rd_T54 x0 x5).f1) ((rd_T54 x0 x5).f2) ((rd_T54 x0 x5).f3)) else (spec_l3Types.j1 k x0 x4 x5 1 1 (((rd_T54 x0 x5).f0) == 10) ((rd_T54 x0 x5).f0) ((rd_T54 x0 x5).f1) ((rd_T54 x0 x5).f2) ((rd_T54 x0 x5).f3))) else (none)) else (some (x4, true))
def spec_l3Types.j1 : Nat → List (S54) → List Int → Int → Int → Int → Bool → Int → Int → Int → Int → Option (List Int × Bool)
  | 0, _, _, _, _, _, _, _, _, _, _ => none
  | k + 1, x0, x4, x5, x7, x8, x27, x143000, x143001, x143002, x143003 => if x27 = true then (spec_l3Types.j2 k x0 x4 x5 2 x8 x143000 x143001 x143002 x143003) else (spec_l3Types.j2 k x0 x4 x5 x7 x8 x143000 x143001 x143002 x143003)
def spec_l3Types.j2 : Nat → List (S54) → List Int → Int → Int → Int → Int → Int → Int → Int → Option (List Int × Bool)
  | 0, _, _, _, _, _, _, _, _, _ => none
  | k + 1, x0, x4, x5, x7, x8, x143000, x143001, x143002, x143003 => if x143000 ≥ 7 then (if x143000 > 2 then (if 0 ≤ x143002 then (if x143002 < (x4.length : Int) then (if (rd x4 x143002) = x7 then ((spec_l3Two.f x143000).bind fun t144 => (if t144 = true then (if 0 ≤ x143003 then (if x143003 < (x4.length : Int) then (if (rd x4 x143003) = x7 then (if x4.length < 17592186044416 then (spec_l3Types.l0 k x0 (x4 ++ [2]) (wrap64 (x5 + 1))) else (none)) else (some (([] : List Int), false))) else (none)) else (none)) else (if x4.length < 17592186044416 then (spec_l3Types.l0 k x0 (x4 ++ [2]) (wrap64 (x5 + 1))) else (none)))) else (some (([] : List Int), false))) else (none)) else (none)) else ((spec_l3Two.f x143000).bind fun t152 => (if t152 = true then (if 0 ≤ x143003 then (if x143003 < (x4.length : Int) then (if (rd x4 x143003) = x7 then (if x4.length < 17592186044416 then (spec_l3Types.l0 k x0 (x4 ++ [2]) (wrap64 (x5 + 1))) else (none)) else (some (([] : List Int), false))) else (none)) else (none)) else (if x4.length < 17592186044416 then (spec_l3Types.l0 k x0 (x4 ++ [2]) (wrap64 (x5 + 1))) else (none))))) else (if x143000 > 2 then (if 0 ≤ x143002 then (if x143002 < (x4.length : Int) then (if (rd x4 x143002) = x7 then ((spec_l3Two.f x143000).bind fun t161 => (if t161 = true then (if 0 ≤ x143003 then (if x143003 < (x4.length : Int) then (if (rd x4 x143003) = x7 then (if x4.length < 17592186044416 then (spec_l3Types.l0 k x0 (x4 ++ [x8]) (wrap64 (x5 + 1))) else (none)) else (some (([] : List Int), false))) else (none)) else (none)) else (if x4.length < 17592186044416 then (spec_l3Types.l0 k x0 (x4 ++ [x8]) (wrap64 (x5 + 1))) else (none)))) else (some (([] : List Int), false))) else (none)) else (none)) else ((spec_l3Two.f x143000).bind fun t169 => (if t169 = true then (if 0 ≤ x143003 then (if x143003 < (x4.length : Int) then (if (rd x4 x143003) = x7 then (if x4.length < 17592186044416 then (spec_l3Types.l0 k x0 (x4 ++ [x8]) (wrap64 (x5 + 1))) else (none)) else (some (([] : List Int), false))) else (none)) else (none)) else (if x4.length < 17592186044416 then (spec_l3Types.l0 k x0 (x4 ++ [x8]) (wrap64 (x5 + 1))) else (none)))))
end
def spec_l3Types.f (k : Nat) (l0 : List (S54)) : Option (List Int × Bool) := spec_l3Types.l0 k l0 (([] : List Int)) 0
theorem spec_l3Types.mono_l : ∀ k, (∀ y0 y1 y2, LeO (spec_l3Types.l0 k y0 y1 y2) (spec_l3Types.l0 (k + 1) y0 y1 y2)) ∧ (∀ y0 y1 y2 y3 y4 y5 y6 y7 y8 y9, LeO (spec_l3Types.j1 k y0 y1 y2 y3 y4 y5 y6 y7 y8 y9) (spec_l3Types.j1 (k + 1) y0 y1 y2 y3 y4 y5 y6 y7 y8 y9)) ∧ (∀ y0 y1 y2 y3 y4 y5 y6 y7 y8, LeO (spec_l3Types.j2 k y0 y1 y2 y3 y4 y5 y6 y7 y8) (spec_l3Types.j2 (k + 1) y0 y1 y2 y3 y4 y5 y6 y7 y8))
  | 0 => ⟨fun _ _ _ r h => by simp [spec_l3Types.l0] at h, fun _ _ _ _ _ _ _ _ _ _ r h => by simp [spec_l3Types.j1] at h, fun _ _ _ _ _ _ _ _ _ r h => by simp [spec_l3Types.j2] at h⟩
  | k + 1 => by
    obtain ⟨ih0, ih1, ih2⟩ := spec_l3Types.mono_l k
    refine ⟨?_, ?_, ?_⟩
    · intro y0 y1 y2
      unfold spec_l3Types.l0
      repeat' first
      | (with_reducible exact ih0 _ _ _)
      | (with_reducible exact ih1 _ _ _ _ _ _ _ _ _ _)
      | (with_reducible exact ih2 _ _ _ _ _ _ _ _ _)
      | (with_reducible exact LeO.refl _)
      | (with_reducible exact LeO.none _)
      | (with_reducible refine LeO.ite ?_ ?_)
      | (with_reducible refine LeO.bind ?_ (fun _ => ?_))
      | exact ih0 _ _ _
      | exact ih1 _ _ _ _ _ _ _ _ _ _
      | exact ih2 _ _ _ _ _ _ _ _ _
      | exact LeO.none _
      | refine LeO.ite ?_ ?_
      | refine LeO.bind ?_ (fun _ => ?_)
    · intro y0 y1 y2 y3 y4 y5 y6 y7 y8 y9
      unfold spec_l3Types.j1
      repeat' first
      | (with_reducible exact ih0 _ _ _)
      | (with_reducible exact ih1 _ _ _ _ _ _ _ _ _ _)
      | (with_reducible exact ih2 _ _ _ _ _ _ _ _ _)
      | (with_reducible exact LeO.refl _)
      | (with_reducible exact LeO.none _)
      | (with_reducible refine LeO.ite ?_ ?_)
      | (with_reducible refine LeO.bind ?_ (fun _ => ?_))
      | exact ih0 _ _ _
      | exact ih1 _ _ _ _ _ _ _ _ _ _
      | exact ih2 _ _ _ _ _ _ _ _ _
      | exact LeO.none _
      | refine LeO.ite ?_ ?_
      | refine LeO.bind ?_ (fun _ => ?_)
    · intro y0 y1 y2 y3 y4 y5 y6 y7 y8
      unfold spec_l3Types.j2
      repeat' first
      | (with_reducible exact ih0 _ _ _)
      | (with_reducible exact ih1 _ _ _ _ _ _ _ _ _ _)
      | (with_reducible exact ih2 _ _ _ _ _ _ _ _ _)
      | (with_reducible exact LeO.refl _)
      | (with_reducible exact LeO.none _)
      | (with_reducible refine LeO.ite ?_ ?_)
      | (with_reducible refine LeO.bind ?_ (fun _ => ?_))
      | exact ih0 _ _ _
      | exact ih1 _ _ _ _ _ _ _ _ _ _
      | exact ih2 _ _ _ _ _ _ _ _ _
      | exact LeO.none _
      | refine LeO.ite ?_ ?_
      | refine LeO.bind ?_ (fun _ => ?_)
theorem spec_l3Types.mono : ∀ a0 k, LeO (spec_l3Types.f k a0) (spec_l3Types.f (k + 1) a0) := by
  intro a0 k
  obtain ⟨ih0, ih1, ih2⟩ := spec_l3Types.mono_l k
  unfold spec_l3Types.f
  repeat' first
      | (with_reducible exact ih0 _ _ _)
      | (with_reducible exact ih1 _ _ _ _ _ _ _ _ _ _)
      | (with_reducible exact ih2 _ _ _ _ _ _ _ _ _)
      | (with_reducible exact LeO.refl _)
      | (with_reducible exact LeO.none _)
      | (with_reducible refine LeO.ite ?_ ?_)
      | (with_reducible refine LeO.bind ?_ (fun _ => ?_))
      | exact ih0 _ _ _
      | exact ih1 _ _ _ _ _ _ _ _ _ _
      | exact ih2 _ _ _ _ _ _ _ _ _
      | exact LeO.none _
      | refine LeO.ite ?_ ?_
      | refine LeO.bind ?_ (fun _ => ?_)
set_option maxHeartbeats 8000000 in
set_option maxRecDepth 100000 in
theorem spec_l3Types.calls (k : Nat) (A0 : Option Addr) (c0 : Nat) (l0 : List (S54)) (r1 : List Int) (r2 : Bool) (w : World) (hr0 : Kd.C k54 w A0 l0.length l0) (hc0 : l0.length ≤ c0) (h : spec_l3Types.f k l0 = some (r1, r2)) :
    Calls Try.prog 48 #[.slice A0 l0.length c0] w fun e w' => ∃ v0_ : Value, e = .returned (.tuple #[v0_, .bool r2]) ∧ Kd.R (Kd.int .i64) 2 w' w.heap.size (fun _ => True) v0_ r1 ∧ Below w.heap.size w w' := by
  have hu54 := Try.underlying54
  have HR0 := Aside0.mk hr0
  have HC0 := Aside0.mk hc0
  clear hr0 hc0
  have HB := Aside0.mk (Below.refl w.heap.size w)
  have H : (spec_l3Types.l0 k l0 (([] : List Int)) 0) = some (r1, r2) := h
  clear h
  obtain ⟨y138, hy138⟩ : ∃ y_ : List Int, y_ = (([] : List Int)) := ⟨_, rfl⟩
  replace H : (spec_l3Types.l0 k l0 y138 0) = some (r1, r2) := by first | (rw [hy138]; with_reducible exact H) | (have H2_ := (Option.bind_some _ _).symm.trans H; rw [hy138]; with_reducible exact H2_) | (have H2_ := (Option.bind_some _ _).symm.trans H; with_reducible exact H2_) | with_reducible exact H | (rw [hy138]; exact H) | exact H
  have Ny138 := Aside0.mk hy138
  clear hy138
  have H' := Aside0.mk H
  clear H
  go_enter Try.func48, Try.ntmps48
  go_wp2_with (first | ((with_reducible refine gate_dst (N := 9) rfl ?_); refine Kd.R_lit (Kd.int .i64) _ 2 ?hg (N := 9) ?hd (xs := ([] : List Int)) (inner := []) (ok := fun _ => True) (okp := fun _ => True) ?hr ?hp (fun _ hk => hk) trivial (Below.refl _ _) (Nat.le_refl _) (by simp) ?_; (case hd => rfl); (case hg => rfl); (case hr => first | (go_simp; done) | (go_simp; rfl)); (case hp => exact (Reps.none _ _)); intro v139 w2 ho3 hb hg_ hnew_; clear hg_ hnew_; (first | rw [← Ny138.out] at ho3 | (simp only [Int.reduceToNat] at ho3; rw [← Ny138.out] at ho3)); have n0_ := Aside0.mk (Kd.R_lower ho3 (below_size (by repeat (first | (with_reducible first | exact HB.out | apply below_alloc | apply pw_below_drewN | apply below_drew1) | exact HB.out)))); have n1_ := Aside0.mk (below_step (by repeat (first | (with_reducible first | exact HB.out | apply below_alloc | apply pw_below_drewN | apply below_drew1) | exact HB.out)) hb); clear HB; have HO140 := n0_; have HB := n1_; clear n0_ n1_; clear hb ho3))
  go_loopg [4, 5] k (fun kq v4 v5 w' => ∃ (x4_1 : List Int) (x5_1 : Int), v5 = .int .i64 x5_1 ∧ Aside0 (spec_l3Types.l0 kq l0 x4_1 x5_1 = some (r1, r2)) ∧ Aside0 (kq ≤ k) ∧ Aside0 (Kd.R (Kd.int .i64) 2 w' w.heap.size (fun _ => True) v4 x4_1) ∧ Aside0 (Below w.heap.size w w'))
  case atStart => exact ⟨(y138), (0), (by first | rfl | (simp; done) | (simp [*]; done)), H', ⟨Nat.le_refl _⟩, ⟨by (with_reducible repeat (first | apply Kd.R_alloc | apply Kd.R_drewN | apply Kd.R_drew)); exact HO140.out⟩, ⟨by repeat (first | (with_reducible first | exact HB.out | apply below_alloc | apply pw_below_drewN | apply below_drew1) | exact HB.out)⟩⟩
  case round =>
    clear H'
    try clear p2
    obtain ⟨x4_1, x5_1, rfl, HA, HK1, HO_4, HB⟩ := hrel
    cases gk with
    | zero => exact absurd HA.out (by simp [spec_l3Types.l0])
    | succ k1 =>
      have H := HA.out
      clear HA
      simp only [spec_l3Types.l0] at H
      by_cases c4 : x5_1 < (l0.length : Int)
      · rw [if_pos c4] at H
        have c4b0 : decide (x5_1 < (l0.length : Int)) = true := decide_eq_true c4
        clear c4
        by_cases c5 : 0 ≤ x5_1
        · rw [if_pos c5] at H
          have c5b0 : decide (0 ≤ x5_1) = true := decide_eq_true c5
          clear c5
          have HC6 := Aside0.mk H
          clear H
          have p141 : 0 ≤ (x5_1 : Int) := of_decide_eq_true (by first | (with_reducible assumption) | assumption)
          have q141 : x5_1 < (l0.length : Int) := of_decide_eq_true (by first | (with_reducible assumption) | assumption)
          obtain ⟨ad141, e141, hx141_0, hx141_1, hx141_2, hx141_3⟩ := at_T54 HR0.out x5_1 p141 q141
          cases e141
          replace hx141_0 := (HB.out.cell (World.block_lt_of_cell? w _ hx141_0)).trans hx141_0
          replace hx141_1 := (HB.out.cell (World.block_lt_of_cell? w _ hx141_1)).trans hx141_1
          replace hx141_2 := (HB.out.cell (World.block_lt_of_cell? w _ hx141_2)).trans hx141_2
          replace hx141_3 := (HB.out.cell (World.block_lt_of_cell? w _ hx141_3)).trans hx141_3
          replace p141 := eq_true p141
          replace q141 := eq_true q141
          go_upto_region 8 with (first | ((with_reducible refine gate_dst (N := 6) rfl ?_); refine box_event ?hg (N := 6) ?hd (cs := #[.int .i64 0, .int .i64 0, .int .i64 0, .int .i64 0]) (t := 54) ?hr ?_; (case hd => rfl); (case hg => rfl); (case hr => first | (go_simp; done) | (go_simp; rfl)); intro gb142 hg w7 hbox hb; have n0_ := Aside0.mk (Kd.R_below (by (with_reducible repeat (first | apply Kd.R_alloc | apply Kd.R_drewN | apply Kd.R_drew)); exact HO_4.out) hb); have n1_ := Aside0.mk (below_step (by repeat (first | (with_reducible first | exact HB.out | apply below_alloc | apply pw_below_drewN | apply below_drew1) | exact HB.out)) hb); have n2_ := Aside0.mk (hbox); have n3_ := Aside0.mk ((by rw [hg]; exact (below_size (by repeat (first | (with_reducible first | exact HB.out | apply below_alloc | apply pw_below_drewN | apply below_drew1) | exact HB.out))) : w.heap.size ≤ gb142)); have n4_ := Aside0.mk ((by rw [hg]; exact (below_size (by repeat (first | (with_reducible first | exact HB.out | apply below_alloc | apply pw_below_drewN | apply below_drew1) | exact HB.out))) : w.heap.size ≤ gb142)); clear HO_4; clear HB; have HO_4 := n0_; have HB := n1_; have BK142 := n2_; have GW142 := n3_; have GE142 := n4_; clear n0_ n1_ n2_ n3_ n4_; clear hb hbox hg; have hcz8_0 : w7.cell? ⟨gb142, 0, none⟩ = some (.int .i64 0) := (blk_cell BK142.out 0).trans rfl; have hcz8_1 : w7.cell? ⟨gb142, 1, none⟩ = some (.int .i64 0) := (blk_cell BK142.out 1).trans rfl; have hcz8_2 : w7.cell? ⟨gb142, 2, none⟩ = some (.int .i64 0) := (blk_cell BK142.out 2).trans rfl; have hcz8_3 : w7.cell? ⟨gb142, 3, none⟩ = some (.int .i64 0) := (blk_cell BK142.out 3).trans rfl; have hfz8_0 := blk_frozen BK142.out 0; have hfz8_1 := blk_frozen BK142.out 1; have hfz8_2 := blk_frozen BK142.out 2; have hfz8_3 := blk_frozen BK142.out 3))
          (try simp only [Act.put, List.setIfInBounds_toArray, List.set_cons_zero, List.set_cons_succ])
          go_cut [27] (fun v27 wc => ∃ (kq : Nat) (x27_5 : Bool), v27 = .bool x27_5 ∧ Aside0 (spec_l3Types.j1 kq l0 x4_1 x5_1 1 1 x27_5 ((rd_T54 l0 x5_1).f0) ((rd_T54 l0 x5_1).f1) ((rd_T54 l0 x5_1).f2) ((rd_T54 l0 x5_1).f3) = some (r1, r2)) ∧ Aside0 (kq ≤ k1) ∧ Aside0 (Kd.R (Kd.int .i64) 2 wc w.heap.size (fun _ => True) u4 x4_1) ∧ Aside0 (wc.heap[gb142]? = some (.cells #[.int .i64 ((rd_T54 l0 x5_1).f0), .int .i64 ((rd_T54 l0 x5_1).f1), .int .i64 ((rd_T54 l0 x5_1).f2), .int .i64 ((rd_T54 l0 x5_1).f3)] 54 (0, 0))) ∧ Aside0 (Below w.heap.size w wc))
          case first =>
            have H := HC6.out
            clear HC6
            by_cases c9 : ((rd_T54 l0 x5_1).f0) = 9
            · rw [if_pos c9] at H
              have c9b0 : (((rd_T54 l0 x5_1).f0) == 9) = true := beq_iff_eq.mpr c9
              have c9b1 : (((rd_T54 l0 x5_1).f0) != 9) = false := bne_eq_false_iff_eq.mpr c9
              clear c9
              (first | rw [c9b0] | (simp only [i64_w, i32_w]; rw [c9b0]) | skip)
              have H' := Aside0.mk H
              clear H
              have hcz10_0 : w7.cell? ⟨gb142, 0, none⟩ = some (.int .i64 0) := (blk_cell BK142.out 0).trans rfl
              have hcz10_1 : w7.cell? ⟨gb142, 1, none⟩ = some (.int .i64 0) := (blk_cell BK142.out 1).trans rfl
              have hcz10_2 : w7.cell? ⟨gb142, 2, none⟩ = some (.int .i64 0) := (blk_cell BK142.out 2).trans rfl
              have hcz10_3 : w7.cell? ⟨gb142, 3, none⟩ = some (.int .i64 0) := (blk_cell BK142.out 3).trans rfl
              have hfz10_0 := blk_frozen BK142.out 0
              have hfz10_1 := blk_frozen BK142.out 1
              have hfz10_2 := blk_frozen BK142.out 2
              have hfz10_3 := blk_frozen BK142.out 3
              go_wp2
              go_meet
              case rel => exact ⟨_, (true), (by first | rfl | (simp; done) | (simp [*]; done)), H', ⟨by have := HK1.out; first | omega | exact Nat.le_refl _⟩, ⟨by (with_reducible repeat (first | apply Kd.R_alloc | apply Kd.R_drewN | apply Kd.R_drew)); exact Kd.R_mono (Kd.R_far (p := ⟨gb142, 3, none⟩) (Kd.R_far (p := ⟨gb142, 2, none⟩) (Kd.R_far (p := ⟨gb142, 1, none⟩) (Kd.R_far (p := ⟨gb142, 0, none⟩) (Kd.R_types HO_4.out BK142.out (by decide)) (fun _ hk => hk.2) (.int .i64 ((rd_T54 l0 x5_1).f0))) (fun _ hk => hk.2) (.int .i64 ((rd_T54 l0 x5_1).f1))) (fun _ hk => hk.2) (.int .i64 ((rd_T54 l0 x5_1).f2))) (fun _ hk => hk.2) (.int .i64 ((rd_T54 l0 x5_1).f3))) (fun _ hk => trivial)⟩, ⟨by (with_reducible repeat (first | refine blk_drewN ?_ _ | refine blk_drew ?_ | refine blk_alloc ?_ _)); refine blk_put (cs := #[.int .i64 ((rd_T54 l0 x5_1).f0), .int .i64 ((rd_T54 l0 x5_1).f1), .int .i64 ((rd_T54 l0 x5_1).f2), .int .i64 0]) ?_ 3 _ rfl; (with_reducible repeat (first | refine blk_drewN ?_ _ | refine blk_drew ?_ | refine blk_alloc ?_ _)); refine blk_put (cs := #[.int .i64 ((rd_T54 l0 x5_1).f0), .int .i64 ((rd_T54 l0 x5_1).f1), .int .i64 0, .int .i64 0]) ?_ 2 _ rfl; (with_reducible repeat (first | refine blk_drewN ?_ _ | refine blk_drew ?_ | refine blk_alloc ?_ _)); refine blk_put (cs := #[.int .i64 ((rd_T54 l0 x5_1).f0), .int .i64 0, .int .i64 0, .int .i64 0]) ?_ 1 _ rfl; (with_reducible repeat (first | refine blk_drewN ?_ _ | refine blk_drew ?_ | refine blk_alloc ?_ _)); refine blk_put (cs := #[.int .i64 0, .int .i64 0, .int .i64 0, .int .i64 0]) ?_ 0 _ rfl; (with_reducible repeat (first | refine blk_drewN ?_ _ | refine blk_drew ?_ | refine blk_alloc ?_ _)); exact BK142.out⟩, ⟨by repeat (first | (with_reducible first | exact HB.out | apply below_alloc | apply pw_below_drewN | apply below_drew1 | refine below_set ?_ GE142.out) | exact HB.out)⟩⟩
            · rw [if_neg c9] at H
              have c9b0 : (((rd_T54 l0 x5_1).f0) == 9) = false := beq_eq_false_iff_ne.mpr c9
              have c9b1 : (((rd_T54 l0 x5_1).f0) != 9) = true := bne_iff_ne.mpr c9
              (first | rw [c9b0] | (simp only [i64_w, i32_w]; rw [c9b0]) | skip)
              have H' := Aside0.mk H
              clear H
              have hcz11_0 : w7.cell? ⟨gb142, 0, none⟩ = some (.int .i64 0) := (blk_cell BK142.out 0).trans rfl
              have hcz11_1 : w7.cell? ⟨gb142, 1, none⟩ = some (.int .i64 0) := (blk_cell BK142.out 1).trans rfl
              have hcz11_2 : w7.cell? ⟨gb142, 2, none⟩ = some (.int .i64 0) := (blk_cell BK142.out 2).trans rfl
              have hcz11_3 : w7.cell? ⟨gb142, 3, none⟩ = some (.int .i64 0) := (blk_cell BK142.out 3).trans rfl
              have hfz11_0 := blk_frozen BK142.out 0
              have hfz11_1 := blk_frozen BK142.out 1
              have hfz11_2 := blk_frozen BK142.out 2
              have hfz11_3 := blk_frozen BK142.out 3
              go_wp2
              go_meet
              case rel => exact ⟨_, ((((rd_T54 l0 x5_1).f0) == 10)), (by first | rfl | (simp; done) | (simp [*]; done)), H', ⟨by have := HK1.out; first | omega | exact Nat.le_refl _⟩, ⟨by (with_reducible repeat (first | apply Kd.R_alloc | apply Kd.R_drewN | apply Kd.R_drew)); exact Kd.R_mono (Kd.R_far (p := ⟨gb142, 3, none⟩) (Kd.R_far (p := ⟨gb142, 2, none⟩) (Kd.R_far (p := ⟨gb142, 1, none⟩) (Kd.R_far (p := ⟨gb142, 0, none⟩) (Kd.R_types HO_4.out BK142.out (by decide)) (fun _ hk => hk.2) (.int .i64 ((rd_T54 l0 x5_1).f0))) (fun _ hk => hk.2) (.int .i64 ((rd_T54 l0 x5_1).f1))) (fun _ hk => hk.2) (.int .i64 ((rd_T54 l0 x5_1).f2))) (fun _ hk => hk.2) (.int .i64 ((rd_T54 l0 x5_1).f3))) (fun _ hk => trivial)⟩, ⟨by (with_reducible repeat (first | refine blk_drewN ?_ _ | refine blk_drew ?_ | refine blk_alloc ?_ _)); refine blk_put (cs := #[.int .i64 ((rd_T54 l0 x5_1).f0), .int .i64 ((rd_T54 l0 x5_1).f1), .int .i64 ((rd_T54 l0 x5_1).f2), .int .i64 0]) ?_ 3 _ rfl; (with_reducible repeat (first | refine blk_drewN ?_ _ | refine blk_drew ?_ | refine blk_alloc ?_ _)); refine blk_put (cs := #[.int .i64 ((rd_T54 l0 x5_1).f0), .int .i64 ((rd_T54 l0 x5_1).f1), .int .i64 0, .int .i64 0]) ?_ 2 _ rfl; (with_reducible repeat (first | refine blk_drewN ?_ _ | refine blk_drew ?_ | refine blk_alloc ?_ _)); refine blk_put (cs := #[.int .i64 ((rd_T54 l0 x5_1).f0), .int .i64 0, .int .i64 0, .int .i64 0]) ?_ 1 _ rfl; (with_reducible repeat (first | refine blk_drewN ?_ _ | refine blk_drew ?_ | refine blk_alloc ?_ _)); refine blk_put (cs := #[.int .i64 0, .int .i64 0, .int .i64 0, .int .i64 0]) ?_ 0 _ rfl; (with_reducible repeat (first | refine blk_drewN ?_ _ | refine blk_drew ?_ | refine blk_alloc ?_ _)); exact BK142.out⟩, ⟨by repeat (first | (with_reducible first | exact HB.out | apply below_alloc | apply pw_below_drewN | apply below_drew1 | refine below_set ?_ GE142.out) | exact HB.out)⟩⟩
          case rest =>
            clear HC6
            try clear p1
            try clear q1
            try clear hx1
            try clear p2
            try clear c4
            try clear c4b0
            try clear c5
            try clear c5b0
            try clear c9
            try clear c9b0
            try clear c9b1
            try clear hcz10_0
            try clear hcz10_1
            try clear hcz10_2
            try clear hcz10_3
            try clear hcz11_0
            try clear hcz11_1
            try clear hcz11_2
            try clear hcz11_3
            try clear hcz8_0
            try clear hcz8_1
            try clear hcz8_2
            try clear hcz8_3
            try clear hfz10_0
            try clear hfz10_1
            try clear hfz10_2
            try clear hfz10_3
            try clear hfz11_0
            try clear hfz11_1
            try clear hfz11_2
            try clear hfz11_3
            try clear hfz8_0
            try clear hfz8_1
            try clear hfz8_2
            try clear hfz8_3
            try clear hx141_0
            try clear hx141_1
            try clear hx141_2
            try clear hx141_3
            try clear p141
            try clear p2
            try clear q141
            obtain ⟨kq, x27_5, rfl, HA, HJ5, HO_4, BK142, HB⟩ := hcut
            cases kq with
            | zero => exact absurd HA.out (by simp [spec_l3Types.j1])
            | succ kj5 =>
              have H := HA.out
              clear HA
              simp only [spec_l3Types.j1] at H
              have HC12 := Aside0.mk H
              clear H
              go_upto_if 27 with (fail)
              go_cut [7] (fun v7 wc => ∃ (kq : Nat) (x7_11 : Int), v7 = .int .i64 x7_11 ∧ Aside0 (spec_l3Types.j2 kq l0 x4_1 x5_1 x7_11 1 ((rd_T54 l0 x5_1).f0) ((rd_T54 l0 x5_1).f1) ((rd_T54 l0 x5_1).f2) ((rd_T54 l0 x5_1).f3) = some (r1, r2)) ∧ Aside0 (kq ≤ kj5) ∧ Aside0 (Kd.R (Kd.int .i64) 2 wc w.heap.size (fun _ => True) u4 x4_1) ∧ Aside0 (wc.heap[gb142]? = some (.cells #[.int .i64 ((rd_T54 l0 x5_1).f0), .int .i64 ((rd_T54 l0 x5_1).f1), .int .i64 ((rd_T54 l0 x5_1).f2), .int .i64 ((rd_T54 l0 x5_1).f3)] 54 (0, 0))) ∧ Aside0 (Below w.heap.size w wc))
              case first =>
                have H := HC12.out
                clear HC12
                by_cases c13 : x27_5 = true
                · subst c13
                  have H1 : (spec_l3Types.j2 kj5 l0 x4_1 x5_1 2 1 ((rd_T54 l0 x5_1).f0) ((rd_T54 l0 x5_1).f1) ((rd_T54 l0 x5_1).f2) ((rd_T54 l0 x5_1).f3)) = some (r1, r2) := by rw [if_pos rfl] at H; exact H
                  clear H
                  have H := H1
                  clear H1
                  have H' := Aside0.mk H
                  clear H
                  go_wp2
                  go_meet
                  case rel => exact ⟨_, (2), (by first | rfl | (simp; done) | (simp [*]; done)), H', ⟨by have := HK1.out; have := HJ5.out; first | omega | exact Nat.le_refl _⟩, ⟨by (with_reducible repeat (first | apply Kd.R_alloc | apply Kd.R_drewN | apply Kd.R_drew)); exact HO_4.out⟩, ⟨by (with_reducible repeat (first | refine blk_drewN ?_ _ | refine blk_drew ?_ | refine blk_alloc ?_ _)); exact BK142.out⟩, ⟨by repeat (first | (with_reducible first | exact HB.out | apply below_alloc | apply pw_below_drewN | apply below_drew1 | refine below_set ?_ GE142.out) | exact HB.out)⟩⟩
                · replace c13 := Bool.eq_false_iff.mpr c13
                  subst c13
                  have H1 : (spec_l3Types.j2 kj5 l0 x4_1 x5_1 1 1 ((rd_T54 l0 x5_1).f0) ((rd_T54 l0 x5_1).f1) ((rd_T54 l0 x5_1).f2) ((rd_T54 l0 x5_1).f3)) = some (r1, r2) := by rw [if_neg (show ¬ (false = true) by decide)] at H; exact H
                  clear H
                  have H := H1
                  clear H1
                  have H' := Aside0.mk H
                  clear H
                  go_wp2
                  go_meet
                  case rel => exact ⟨_, (1), (by first | rfl | (simp; done) | (simp [*]; done)), H', ⟨by have := HK1.out; have := HJ5.out; first | omega | exact Nat.le_refl _⟩, ⟨by (with_reducible repeat (first | apply Kd.R_alloc | apply Kd.R_drewN | apply Kd.R_drew)); exact HO_4.out⟩, ⟨by (with_reducible repeat (first | refine blk_drewN ?_ _ | refine blk_drew ?_ | refine blk_alloc ?_ _)); exact BK142.out⟩, ⟨by repeat (first | (with_reducible first | exact HB.out | apply below_alloc | apply pw_below_drewN | apply below_drew1 | refine below_set ?_ GE142.out) | exact HB.out)⟩⟩
              case rest =>
                clear HC12
                try clear c1
                try clear p1
                try clear q1
                try clear hx1
                try clear p2
                try clear c4
                try clear c4b0
                try clear c5
                try clear c5b0
                try clear c9
                try clear c9b0
                try clear c9b1
                try clear c13
                try clear hcz10_0
                try clear hcz10_1
                try clear hcz10_2
                try clear hcz10_3
                try clear hcz11_0
                try clear hcz11_1
                try clear hcz11_2
                try clear hcz11_3
                try clear hcz8_0
                try clear hcz8_1
                try clear hcz8_2
                try clear hcz8_3
                try clear hfz10_0
                try clear hfz10_1
                try clear hfz10_2
                try clear hfz10_3
                try clear hfz11_0
                try clear hfz11_1
                try clear hfz11_2
                try clear hfz11_3
                try clear hfz8_0
                try clear hfz8_1
                try clear hfz8_2
                try clear hfz8_3
                try clear hx141_0
                try clear hx141_1
                try clear hx141_2
                try clear hx141_3
                try clear p1
                try clear p141
                try clear p2
                try clear q1
                try clear q141
                obtain ⟨kq, x7_11, rfl, HA, HJ11, HO_4, BK142, HB⟩ := hcut
                cases kq with
                | zero => exact absurd HA.out (by simp [spec_l3Types.j2])
                | succ kj11 =>
                  have H := HA.out
                  clear HA
                  simp only [spec_l3Types.j2] at H
                  by_cases c14 : ((rd_T54 l0 x5_1).f0) ≥ 7
                  · rw [if_pos c14] at H
                    have c14b0 : decide (7 ≤ ((rd_T54 l0 x5_1).f0)) = true := decide_eq_true c14
                    clear c14
                    by_cases c15 : ((rd_T54 l0 x5_1).f0) > 2
                    · rw [if_pos c15] at H
                      have c15b0 : decide (2 < ((rd_T54 l0 x5_1).f0)) = true := decide_eq_true c15
                      clear c15
                      by_cases c16 : 0 ≤ ((rd_T54 l0 x5_1).f2)
                      · rw [if_pos c16] at H
                        have c16b0 : decide (0 ≤ ((rd_T54 l0 x5_1).f2)) = true := decide_eq_true c16
                        clear c16
                        by_cases c17 : ((rd_T54 l0 x5_1).f2) < (x4_1.length : Int)
                        · rw [if_pos c17] at H
                          have c17b0 : decide (((rd_T54 l0 x5_1).f2) < (x4_1.length : Int)) = true := decide_eq_true c17
                          clear c17
                          by_cases c18 : (rd x4_1 ((rd_T54 l0 x5_1).f2)) = x7_11
                          · rw [if_pos c18] at H
                            have c18b0 : ((rd x4_1 ((rd_T54 l0 x5_1).f2)) == x7_11) = true := beq_iff_eq.mpr c18
                            have c18b1 : ((rd x4_1 ((rd_T54 l0 x5_1).f2)) != x7_11) = false := bne_eq_false_iff_eq.mpr c18
                            clear c18
                            replace H := Option.bind_eq_some_iff.mp H
                            obtain ⟨t144, A190, H⟩ := H
                            replace H : (if t144 = true then (if 0 ≤ ((rd_T54 l0 x5_1).f3) then (if ((rd_T54 l0 x5_1).f3) < (x4_1.length : Int) then (if (rd x4_1 ((rd_T54 l0 x5_1).f3)) = x7_11 then (if x4_1.length < 17592186044416 then (spec_l3Types.l0 kj11 l0 (x4_1 ++ [2]) (wrap64 (x5_1 + 1))) else (none)) else (some (([] : List Int), false))) else (none)) else (none)) else (if x4_1.length < 17592186044416 then (spec_l3Types.l0 kj11 l0 (x4_1 ++ [2]) (wrap64 (x5_1 + 1))) else (none))) = some (r1, r2) := H
                            have A19 := Aside0.mk A190
                            clear A190
                            by_cases c20 : t144 = true
                            · subst c20
                              have H1 : (if 0 ≤ ((rd_T54 l0 x5_1).f3) then (if ((rd_T54 l0 x5_1).f3) < (x4_1.length : Int) then (if (rd x4_1 ((rd_T54 l0 x5_1).f3)) = x7_11 then (if x4_1.length < 17592186044416 then (spec_l3Types.l0 kj11 l0 (x4_1 ++ [2]) (wrap64 (x5_1 + 1))) else (none)) else (some (([] : List Int), false))) else (none)) else (none)) = some (r1, r2) := by rw [if_pos rfl] at H; exact H
                              clear H
                              have H := H1
                              clear H1
                              by_cases c21 : 0 ≤ ((rd_T54 l0 x5_1).f3)
                              · rw [if_pos c21] at H
                                have c21b0 : decide (0 ≤ ((rd_T54 l0 x5_1).f3)) = true := decide_eq_true c21
                                clear c21
                                by_cases c22 : ((rd_T54 l0 x5_1).f3) < (x4_1.length : Int)
                                · rw [if_pos c22] at H
                                  have c22b0 : decide (((rd_T54 l0 x5_1).f3) < (x4_1.length : Int)) = true := decide_eq_true c22
                                  clear c22
                                  by_cases c23 : (rd x4_1 ((rd_T54 l0 x5_1).f3)) = x7_11
                                  · rw [if_pos c23] at H
                                    have c23b0 : ((rd x4_1 ((rd_T54 l0 x5_1).f3)) == x7_11) = true := beq_iff_eq.mpr c23
                                    have c23b1 : ((rd x4_1 ((rd_T54 l0 x5_1).f3)) != x7_11) = false := bne_eq_false_iff_eq.mpr c23
                                    clear c23
                                    by_cases c24 : x4_1.length < 17592186044416
                                    · rw [if_pos c24] at H
                                      have LMc24 := Aside0.mk c24
                                      clear c24
                                      obtain ⟨y146, hy146⟩ : ∃ y_ : List Int, y_ = (x4_1 ++ [2]) := ⟨_, rfl⟩
                                      replace H : (spec_l3Types.l0 kj11 l0 y146 (wrap64 (x5_1 + 1))) = some (r1, r2) := by first | (rw [hy146]; with_reducible exact H) | (have H2_ := (Option.bind_some _ _).symm.trans H; rw [hy146]; with_reducible exact H2_) | (have H2_ := (Option.bind_some _ _).symm.trans H; with_reducible exact H2_) | with_reducible exact H | (rw [hy146]; exact H) | exact H
                                      have Ny146 := Aside0.mk hy146
                                      clear hy146
                                      have H' := Aside0.mk H
                                      clear H
                                      have hcz25_0 : wc.cell? ⟨gb142, 0, none⟩ = some (.int .i64 ((rd_T54 l0 x5_1).f0)) := (blk_cell BK142.out 0).trans rfl
                                      have hcz25_1 : wc.cell? ⟨gb142, 1, none⟩ = some (.int .i64 ((rd_T54 l0 x5_1).f1)) := (blk_cell BK142.out 1).trans rfl
                                      have hcz25_2 : wc.cell? ⟨gb142, 2, none⟩ = some (.int .i64 ((rd_T54 l0 x5_1).f2)) := (blk_cell BK142.out 2).trans rfl
                                      have hcz25_3 : wc.cell? ⟨gb142, 3, none⟩ = some (.int .i64 ((rd_T54 l0 x5_1).f3)) := (blk_cell BK142.out 3).trans rfl
                                      have hfz25_0 := blk_frozen BK142.out 0
                                      have hfz25_1 := blk_frozen BK142.out 1
                                      have hfz25_2 := blk_frozen BK142.out 2
                                      have hfz25_3 := blk_frozen BK142.out 3
                                      obtain ⟨Ao26, co26, eo26⟩ := Kd.R_slice HO_4.out
                                      subst eo26
                                      have p143 : 0 ≤ (((rd_T54 l0 x5_1).f2) : Int) := of_decide_eq_true (by first | (with_reducible assumption) | assumption)
                                      have q143 : ((rd_T54 l0 x5_1).f2) < (x4_1.length : Int) := of_decide_eq_true (by first | (with_reducible assumption) | assumption)
                                      obtain ⟨ad143, e143, hx143_0⟩ := Kd.at_int (Kd.R_reads' HO_4.out).2.2 ((rd_T54 l0 x5_1).f2) p143 q143
                                      cases e143
                                      replace p143 := eq_true p143
                                      replace q143 := eq_true q143
                                      go_wp2_with (first | (go_at_call 62; (with_reducible refine (spec_l3Two.calls ((rd_T54 l0 x5_1).f0) true _ A19.out).mono ?_); rintro e w' ⟨rfl, ⟨nd, rfl⟩⟩; have p145 : 0 ≤ (((rd_T54 l0 x5_1).f3) : Int) := of_decide_eq_true (by first | (with_reducible assumption) | assumption); have q145 : ((rd_T54 l0 x5_1).f3) < (x4_1.length : Int) := of_decide_eq_true (by first | (with_reducible assumption) | assumption); obtain ⟨ad145, e145, hx145_0⟩ := Kd.at_int (Kd.R_reads' HO_4.out).2.2 ((rd_T54 l0 x5_1).f3) p145 q145; obtain rfl : ad143 = ad145 := (by injection e145); replace p145 := eq_true p145; replace q145 := eq_true q145) | ((with_reducible refine gate_builtin (b := .append) (xs := #[.tmp 57, .tmp 59]) rfl ?_); at_builtin; refine Kd.R_append (Kd.int .i64) (w0 := w) w.heap.size rfl (.tmp 57) (.tmp 59) 23 2 (.int .i64 0) 8 rfl Try.underlying23 info2 rfl (by decide) (by omega) (.slice (some ad143) x4_1.length co26) x4_1 2 [.int .i64 2] (fun _ => True) (fun _ => False) rfl rfl ?aP (fun _ hk => hk.elim) ?aF ?aO ?aB ?aS ?aL ?_; (case aP => exact rfl); (case aB => exact (by repeat (first | (with_reducible first | exact HB.out | apply below_alloc | apply pw_below_drewN | apply below_drew1 | refine below_set ?_ GE142.out) | exact HB.out))); (case aF => exact (fun _ _ => trivial)); (case aO => exact (by (with_reducible repeat (first | apply Kd.R_alloc | apply Kd.R_drewN | apply Kd.R_drew)); exact HO_4.out)); (case aS => exact (below_size (by repeat (first | (with_reducible first | exact HB.out | apply below_alloc | apply pw_below_drewN | apply below_drew1 | refine below_set ?_ GE142.out) | exact HB.out)))); (case aL => have := LMc24.out; omega); intro v147 w27 ho hb hg hat; rw [← Ny146.out] at ho; have n0_ := Aside0.mk (blk_grown (g := gb142) (o := .cells #[.int .i64 ((rd_T54 l0 x5_1).f0), .int .i64 ((rd_T54 l0 x5_1).f1), .int .i64 ((rd_T54 l0 x5_1).f2), .int .i64 ((rd_T54 l0 x5_1).f3)] 54 (0, 0)) (by (with_reducible repeat (first | refine blk_drewN ?_ _ | refine blk_drew ?_ | refine blk_alloc ?_ _)); exact BK142.out) hg (Kd.R_ne HO_4.out BK142.out (by decide))); have n1_ := Aside0.mk (hb); have n2_ := Aside0.mk (ho); clear BK142; clear HB; clear HO_4; have BK142 := n0_; have HB := n1_; have HO148 := n2_; clear n0_ n1_ n2_; clear ho hb hg hat))
                                      go_roundg kj11
                                      case measure => have := HK1.out; have := HJ5.out; have := HJ11.out; omega
                                      case rel => exact ⟨(y146), (wrap64 (x5_1 + 1)), (by first | rfl | (simp; done) | (simp [*]; done)), H', ⟨by have := HK1.out; have := HJ5.out; have := HJ11.out; omega⟩, ⟨by (with_reducible repeat (first | apply Kd.R_alloc | apply Kd.R_drewN | apply Kd.R_drew)); exact HO148.out⟩, ⟨by repeat (first | (with_reducible first | exact HB.out | apply below_alloc | apply pw_below_drewN | apply below_drew1 | refine below_set ?_ GE142.out) | exact HB.out)⟩⟩
                                    · rw [if_neg c24] at H
                                      exact absurd H (by simp)
                                  · rw [if_neg c23] at H
                                    have c23b0 : ((rd x4_1 ((rd_T54 l0 x5_1).f3)) == x7_11) = false := beq_eq_false_iff_ne.mpr c23
                                    have c23b1 : ((rd x4_1 ((rd_T54 l0 x5_1).f3)) != x7_11) = true := bne_iff_ne.mpr c23
                                    simp only [Option.some.injEq, Prod.mk.injEq] at H
                                    obtain ⟨rfl, rfl⟩ := H
                                    have hcz28_0 : wc.cell? ⟨gb142, 0, none⟩ = some (.int .i64 ((rd_T54 l0 x5_1).f0)) := (blk_cell BK142.out 0).trans rfl
                                    have hcz28_1 : wc.cell? ⟨gb142, 1, none⟩ = some (.int .i64 ((rd_T54 l0 x5_1).f1)) := (blk_cell BK142.out 1).trans rfl
                                    have hcz28_2 : wc.cell? ⟨gb142, 2, none⟩ = some (.int .i64 ((rd_T54 l0 x5_1).f2)) := (blk_cell BK142.out 2).trans rfl
                                    have hcz28_3 : wc.cell? ⟨gb142, 3, none⟩ = some (.int .i64 ((rd_T54 l0 x5_1).f3)) := (blk_cell BK142.out 3).trans rfl
                                    have hfz28_0 := blk_frozen BK142.out 0
                                    have hfz28_1 := blk_frozen BK142.out 1
                                    have hfz28_2 := blk_frozen BK142.out 2
                                    have hfz28_3 := blk_frozen BK142.out 3
                                    obtain ⟨Ao29, co29, eo29⟩ := Kd.R_slice HO_4.out
                                    subst eo29
                                    have p143 : 0 ≤ (((rd_T54 l0 x5_1).f2) : Int) := of_decide_eq_true (by first | (with_reducible assumption) | assumption)
                                    have q143 : ((rd_T54 l0 x5_1).f2) < (x4_1.length : Int) := of_decide_eq_true (by first | (with_reducible assumption) | assumption)
                                    obtain ⟨ad143, e143, hx143_0⟩ := Kd.at_int (Kd.R_reads' HO_4.out).2.2 ((rd_T54 l0 x5_1).f2) p143 q143
                                    cases e143
                                    replace p143 := eq_true p143
                                    replace q143 := eq_true q143
                                    go_wp2_with (first | (go_at_call 62; (with_reducible refine (spec_l3Two.calls ((rd_T54 l0 x5_1).f0) true _ A19.out).mono ?_); rintro e w' ⟨rfl, ⟨nd, rfl⟩⟩; have p145 : 0 ≤ (((rd_T54 l0 x5_1).f3) : Int) := of_decide_eq_true (by first | (with_reducible assumption) | assumption); have q145 : ((rd_T54 l0 x5_1).f3) < (x4_1.length : Int) := of_decide_eq_true (by first | (with_reducible assumption) | assumption); obtain ⟨ad145, e145, hx145_0⟩ := Kd.at_int (Kd.R_reads' HO_4.out).2.2 ((rd_T54 l0 x5_1).f3) p145 q145; obtain rfl : ad143 = ad145 := (by injection e145); replace p145 := eq_true p145; replace q145 := eq_true q145))
                                    go_ret2
                                    exact ⟨_, by first | rfl | (simp [errW_none, errW_some] <;> rfl) | (simp [*, errW_none, errW_some] <;> rfl), by first | exact Kd.R_nil _ _ _ _ _ | exact Kd.N_nil _ _ _ _ _ | exact Kd.V_nil _ _ _ _ _ | exact Kd.Q_nil _ _ _ _ _ | exact Kd.S_nil _ _ _ _ _, by repeat (first | (with_reducible first | exact HB.out | apply below_alloc | apply pw_below_drewN | apply below_drew1 | refine below_set ?_ GE142.out) | exact HB.out)⟩
                                · rw [if_neg c22] at H
                                  exact absurd H (by simp)
                              · rw [if_neg c21] at H
                                exact absurd H (by simp)
                            · replace c20 := Bool.eq_false_iff.mpr c20
                              subst c20
                              have H1 : (if x4_1.length < 17592186044416 then (spec_l3Types.l0 kj11 l0 (x4_1 ++ [2]) (wrap64 (x5_1 + 1))) else (none)) = some (r1, r2) := by rw [if_neg (show ¬ (false = true) by decide)] at H; exact H
                              clear H
                              have H := H1
                              clear H1
                              by_cases c30 : x4_1.length < 17592186044416
                              · rw [if_pos c30] at H
                                have LMc30 := Aside0.mk c30
                                clear c30
                                obtain ⟨y149, hy149⟩ : ∃ y_ : List Int, y_ = (x4_1 ++ [2]) := ⟨_, rfl⟩
                                replace H : (spec_l3Types.l0 kj11 l0 y149 (wrap64 (x5_1 + 1))) = some (r1, r2) := by first | (rw [hy149]; with_reducible exact H) | (have H2_ := (Option.bind_some _ _).symm.trans H; rw [hy149]; with_reducible exact H2_) | (have H2_ := (Option.bind_some _ _).symm.trans H; with_reducible exact H2_) | with_reducible exact H | (rw [hy149]; exact H) | exact H
                                have Ny149 := Aside0.mk hy149
                                clear hy149
                                have H' := Aside0.mk H
                                clear H
                                have hcz31_0 : wc.cell? ⟨gb142, 0, none⟩ = some (.int .i64 ((rd_T54 l0 x5_1).f0)) := (blk_cell BK142.out 0).trans rfl
                                have hcz31_1 : wc.cell? ⟨gb142, 1, none⟩ = some (.int .i64 ((rd_T54 l0 x5_1).f1)) := (blk_cell BK142.out 1).trans rfl
                                have hcz31_2 : wc.cell? ⟨gb142, 2, none⟩ = some (.int .i64 ((rd_T54 l0 x5_1).f2)) := (blk_cell BK142.out 2).trans rfl
                                have hcz31_3 : wc.cell? ⟨gb142, 3, none⟩ = some (.int .i64 ((rd_T54 l0 x5_1).f3)) := (blk_cell BK142.out 3).trans rfl
                                have hfz31_0 := blk_frozen BK142.out 0
                                have hfz31_1 := blk_frozen BK142.out 1
                                have hfz31_2 := blk_frozen BK142.out 2
                                have hfz31_3 := blk_frozen BK142.out 3
                                obtain ⟨Ao32, co32, eo32⟩ := Kd.R_slice HO_4.out
                                subst eo32
                                have p143 : 0 ≤ (((rd_T54 l0 x5_1).f2) : Int) := of_decide_eq_true (by first | (with_reducible assumption) | assumption)
                                have q143 : ((rd_T54 l0 x5_1).f2) < (x4_1.length : Int) := of_decide_eq_true (by first | (with_reducible assumption) | assumption)
                                obtain ⟨ad143, e143, hx143_0⟩ := Kd.at_int (Kd.R_reads' HO_4.out).2.2 ((rd_T54 l0 x5_1).f2) p143 q143
                                cases e143
                                replace p143 := eq_true p143
                                replace q143 := eq_true q143
                                go_wp2_with (first | (go_at_call 62; (with_reducible refine (spec_l3Two.calls ((rd_T54 l0 x5_1).f0) false _ A19.out).mono ?_); rintro e w' ⟨rfl, ⟨nd, rfl⟩⟩) | ((with_reducible refine gate_builtin (b := .append) (xs := #[.tmp 57, .tmp 59]) rfl ?_); at_builtin; refine Kd.R_append (Kd.int .i64) (w0 := w) w.heap.size rfl (.tmp 57) (.tmp 59) 23 2 (.int .i64 0) 8 rfl Try.underlying23 info2 rfl (by decide) (by omega) (.slice (some ad143) x4_1.length co32) x4_1 2 [.int .i64 2] (fun _ => True) (fun _ => False) rfl rfl ?aP (fun _ hk => hk.elim) ?aF ?aO ?aB ?aS ?aL ?_; (case aP => exact rfl); (case aB => exact (by repeat (first | (with_reducible first | exact HB.out | apply below_alloc | apply pw_below_drewN | apply below_drew1 | refine below_set ?_ GE142.out) | exact HB.out))); (case aF => exact (fun _ _ => trivial)); (case aO => exact (by (with_reducible repeat (first | apply Kd.R_alloc | apply Kd.R_drewN | apply Kd.R_drew)); exact HO_4.out)); (case aS => exact (below_size (by repeat (first | (with_reducible first | exact HB.out | apply below_alloc | apply pw_below_drewN | apply below_drew1 | refine below_set ?_ GE142.out) | exact HB.out)))); (case aL => have := LMc30.out; omega); intro v150 w33 ho hb hg hat; rw [← Ny149.out] at ho; have n0_ := Aside0.mk (blk_grown (g := gb142) (o := .cells #[.int .i64 ((rd_T54 l0 x5_1).f0), .int .i64 ((rd_T54 l0 x5_1).f1), .int .i64 ((rd_T54 l0 x5_1).f2), .int .i64 ((rd_T54 l0 x5_1).f3)] 54 (0, 0)) (by (with_reducible repeat (first | refine blk_drewN ?_ _ | refine blk_drew ?_ | refine blk_alloc ?_ _)); exact BK142.out) hg (Kd.R_ne HO_4.out BK142.out (by decide))); have n1_ := Aside0.mk (hb); have n2_ := Aside0.mk (ho); clear BK142; clear HB; clear HO_4; have BK142 := n0_; have HB := n1_; have HO151 := n2_; clear n0_ n1_ n2_; clear ho hb hg hat))
                                go_roundg kj11
                                case measure => have := HK1.out; have := HJ5.out; have := HJ11.out; omega
                                case rel => exact ⟨(y149), (wrap64 (x5_1 + 1)), (by first | rfl | (simp; done) | (simp [*]; done)), H', ⟨by have := HK1.out; have := HJ5.out; have := HJ11.out; omega⟩, ⟨by (with_reducible repeat (first | apply Kd.R_alloc | apply Kd.R_drewN | apply Kd.R_drew)); exact HO151.out⟩, ⟨by repeat (first | (with_reducible first | exact HB.out | apply below_alloc | apply pw_below_drewN | apply below_drew1 | refine below_set ?_ GE142.out) | exact HB.out)⟩⟩
                              · rw [if_neg c30] at H
                                exact absurd H (by simp)
                          · rw [if_neg c18] at H
                            have c18b0 : ((rd x4_1 ((rd_T54 l0 x5_1).f2)) == x7_11) = false := beq_eq_false_iff_ne.mpr c18
                            have c18b1 : ((rd x4_1 ((rd_T54 l0 x5_1).f2)) != x7_11) = true := bne_iff_ne.mpr c18
                            simp only [Option.some.injEq, Prod.mk.injEq] at H
                            obtain ⟨rfl, rfl⟩ := H
                            have hcz34_0 : wc.cell? ⟨gb142, 0, none⟩ = some (.int .i64 ((rd_T54 l0 x5_1).f0)) := (blk_cell BK142.out 0).trans rfl
                            have hcz34_1 : wc.cell? ⟨gb142, 1, none⟩ = some (.int .i64 ((rd_T54 l0 x5_1).f1)) := (blk_cell BK142.out 1).trans rfl
                            have hcz34_2 : wc.cell? ⟨gb142, 2, none⟩ = some (.int .i64 ((rd_T54 l0 x5_1).f2)) := (blk_cell BK142.out 2).trans rfl
                            have hcz34_3 : wc.cell? ⟨gb142, 3, none⟩ = some (.int .i64 ((rd_T54 l0 x5_1).f3)) := (blk_cell BK142.out 3).trans rfl
                            have hfz34_0 := blk_frozen BK142.out 0
                            have hfz34_1 := blk_frozen BK142.out 1
                            have hfz34_2 := blk_frozen BK142.out 2
                            have hfz34_3 := blk_frozen BK142.out 3
                            obtain ⟨Ao35, co35, eo35⟩ := Kd.R_slice HO_4.out
                            subst eo35
                            have p143 : 0 ≤ (((rd_T54 l0 x5_1).f2) : Int) := of_decide_eq_true (by first | (with_reducible assumption) | assumption)
                            have q143 : ((rd_T54 l0 x5_1).f2) < (x4_1.length : Int) := of_decide_eq_true (by first | (with_reducible assumption) | assumption)
                            obtain ⟨ad143, e143, hx143_0⟩ := Kd.at_int (Kd.R_reads' HO_4.out).2.2 ((rd_T54 l0 x5_1).f2) p143 q143
                            cases e143
                            replace p143 := eq_true p143
                            replace q143 := eq_true q143
                            go_wp2
                            go_ret2
                            exact ⟨_, by first | rfl | (simp [errW_none, errW_some] <;> rfl) | (simp [*, errW_none, errW_some] <;> rfl), by first | exact Kd.R_nil _ _ _ _ _ | exact Kd.N_nil _ _ _ _ _ | exact Kd.V_nil _ _ _ _ _ | exact Kd.Q_nil _ _ _ _ _ | exact Kd.S_nil _ _ _ _ _, by repeat (first | (with_reducible first | exact HB.out | apply below_alloc | apply pw_below_drewN | apply below_drew1 | refine below_set ?_ GE142.out) | exact HB.out)⟩
                        · rw [if_neg c17] at H
                          exact absurd H (by simp)
                      · rw [if_neg c16] at H
                        exact absurd H (by simp)
                    · rw [if_neg c15] at H
                      have c15b0 : decide (2 < ((rd_T54 l0 x5_1).f0)) = false := decide_eq_false c15
                      clear c15
                      replace H := Option.bind_eq_some_iff.mp H
                      obtain ⟨t152, A360, H⟩ := H
                      replace H : (if t152 = true then (if 0 ≤ ((rd_T54 l0 x5_1).f3) then (if ((rd_T54 l0 x5_1).f3) < (x4_1.length : Int) then (if (rd x4_1 ((rd_T54 l0 x5_1).f3)) = x7_11 then (if x4_1.length < 17592186044416 then (spec_l3Types.l0 kj11 l0 (x4_1 ++ [2]) (wrap64 (x5_1 + 1))) else (none)) else (some (([] : List Int), false))) else (none)) else (none)) else (if x4_1.length < 17592186044416 then (spec_l3Types.l0 kj11 l0 (x4_1 ++ [2]) (wrap64 (x5_1 + 1))) else (none))) = some (r1, r2) := H
                      have A36 := Aside0.mk A360
                      clear A360
                      by_cases c37 : t152 = true
                      · subst c37
                        have H1 : (if 0 ≤ ((rd_T54 l0 x5_1).f3) then (if ((rd_T54 l0 x5_1).f3) < (x4_1.length : Int) then (if (rd x4_1 ((rd_T54 l0 x5_1).f3)) = x7_11 then (if x4_1.length < 17592186044416 then (spec_l3Types.l0 kj11 l0 (x4_1 ++ [2]) (wrap64 (x5_1 + 1))) else (none)) else (some (([] : List Int), false))) else (none)) else (none)) = some (r1, r2) := by rw [if_pos rfl] at H; exact H
                        clear H
                        have H := H1
                        clear H1
                        by_cases c38 : 0 ≤ ((rd_T54 l0 x5_1).f3)
                        · rw [if_pos c38] at H
                          have c38b0 : decide (0 ≤ ((rd_T54 l0 x5_1).f3)) = true := decide_eq_true c38
                          clear c38
                          by_cases c39 : ((rd_T54 l0 x5_1).f3) < (x4_1.length : Int)
                          · rw [if_pos c39] at H
                            have c39b0 : decide (((rd_T54 l0 x5_1).f3) < (x4_1.length : Int)) = true := decide_eq_true c39
                            clear c39
                            by_cases c40 : (rd x4_1 ((rd_T54 l0 x5_1).f3)) = x7_11
                            · rw [if_pos c40] at H
                              have c40b0 : ((rd x4_1 ((rd_T54 l0 x5_1).f3)) == x7_11) = true := beq_iff_eq.mpr c40
                              have c40b1 : ((rd x4_1 ((rd_T54 l0 x5_1).f3)) != x7_11) = false := bne_eq_false_iff_eq.mpr c40
                              clear c40
                              by_cases c41 : x4_1.length < 17592186044416
                              · rw [if_pos c41] at H
                                have LMc41 := Aside0.mk c41
                                clear c41
                                obtain ⟨y154, hy154⟩ : ∃ y_ : List Int, y_ = (x4_1 ++ [2]) := ⟨_, rfl⟩
                                replace H : (spec_l3Types.l0 kj11 l0 y154 (wrap64 (x5_1 + 1))) = some (r1, r2) := by first | (rw [hy154]; with_reducible exact H) | (have H2_ := (Option.bind_some _ _).symm.trans H; rw [hy154]; with_reducible exact H2_) | (have H2_ := (Option.bind_some _ _).symm.trans H; with_reducible exact H2_) | with_reducible exact H | (rw [hy154]; exact H) | exact H
                                have Ny154 := Aside0.mk hy154
                                clear hy154
                                have H' := Aside0.mk H
                                clear H
                                have hcz42_0 : wc.cell? ⟨gb142, 0, none⟩ = some (.int .i64 ((rd_T54 l0 x5_1).f0)) := (blk_cell BK142.out 0).trans rfl
                                have hcz42_1 : wc.cell? ⟨gb142, 1, none⟩ = some (.int .i64 ((rd_T54 l0 x5_1).f1)) := (blk_cell BK142.out 1).trans rfl
                                have hcz42_2 : wc.cell? ⟨gb142, 2, none⟩ = some (.int .i64 ((rd_T54 l0 x5_1).f2)) := (blk_cell BK142.out 2).trans rfl
                                have hcz42_3 : wc.cell? ⟨gb142, 3, none⟩ = some (.int .i64 ((rd_T54 l0 x5_1).f3)) := (blk_cell BK142.out 3).trans rfl
                                have hfz42_0 := blk_frozen BK142.out 0
                                have hfz42_1 := blk_frozen BK142.out 1
                                have hfz42_2 := blk_frozen BK142.out 2
                                have hfz42_3 := blk_frozen BK142.out 3
                                go_wp2_with (first | (go_at_call 62; (with_reducible refine (spec_l3Two.calls ((rd_T54 l0 x5_1).f0) true _ A36.out).mono ?_); rintro e w' ⟨rfl, ⟨nd, rfl⟩⟩; obtain ⟨Ao43, co43, eo43⟩ := Kd.R_slice HO_4.out; subst eo43; have p153 : 0 ≤ (((rd_T54 l0 x5_1).f3) : Int) := of_decide_eq_true (by first | (with_reducible assumption) | assumption); have q153 : ((rd_T54 l0 x5_1).f3) < (x4_1.length : Int) := of_decide_eq_true (by first | (with_reducible assumption) | assumption); obtain ⟨ad153, e153, hx153_0⟩ := Kd.at_int (Kd.R_reads' HO_4.out).2.2 ((rd_T54 l0 x5_1).f3) p153 q153; cases e153; replace p153 := eq_true p153; replace q153 := eq_true q153) | ((with_reducible refine gate_builtin (b := .append) (xs := #[.tmp 57, .tmp 59]) rfl ?_); at_builtin; refine Kd.R_append (Kd.int .i64) (w0 := w) w.heap.size rfl (.tmp 57) (.tmp 59) 23 2 (.int .i64 0) 8 rfl Try.underlying23 info2 rfl (by decide) (by omega) (.slice (some ad153) x4_1.length co43) x4_1 2 [.int .i64 2] (fun _ => True) (fun _ => False) rfl rfl ?aP (fun _ hk => hk.elim) ?aF ?aO ?aB ?aS ?aL ?_; (case aP => exact rfl); (case aB => exact (by repeat (first | (with_reducible first | exact HB.out | apply below_alloc | apply pw_below_drewN | apply below_drew1 | refine below_set ?_ GE142.out) | exact HB.out))); (case aF => exact (fun _ _ => trivial)); (case aO => exact (by (with_reducible repeat (first | apply Kd.R_alloc | apply Kd.R_drewN | apply Kd.R_drew)); exact HO_4.out)); (case aS => exact (below_size (by repeat (first | (with_reducible first | exact HB.out | apply below_alloc | apply pw_below_drewN | apply below_drew1 | refine below_set ?_ GE142.out) | exact HB.out)))); (case aL => have := LMc41.out; omega); intro v155 w44 ho hb hg hat; rw [← Ny154.out] at ho; have n0_ := Aside0.mk (blk_grown (g := gb142) (o := .cells #[.int .i64 ((rd_T54 l0 x5_1).f0), .int .i64 ((rd_T54 l0 x5_1).f1), .int .i64 ((rd_T54 l0 x5_1).f2), .int .i64 ((rd_T54 l0 x5_1).f3)] 54 (0, 0)) (by (with_reducible repeat (first | refine blk_drewN ?_ _ | refine blk_drew ?_ | refine blk_alloc ?_ _)); exact BK142.out) hg (Kd.R_ne HO_4.out BK142.out (by decide))); have n1_ := Aside0.mk (hb); have n2_ := Aside0.mk (ho); clear BK142; clear HB; clear HO_4; have BK142 := n0_; have HB := n1_; have HO156 := n2_; clear n0_ n1_ n2_; clear ho hb hg hat))
                                go_roundg kj11
                                case measure => have := HK1.out; have := HJ5.out; have := HJ11.out; omega
                                case rel => exact ⟨(y154), (wrap64 (x5_1 + 1)), (by first | rfl | (simp; done) | (simp [*]; done)), H', ⟨by have := HK1.out; have := HJ5.out; have := HJ11.out; omega⟩, ⟨by (with_reducible repeat (first | apply Kd.R_alloc | apply Kd.R_drewN | apply Kd.R_drew)); exact HO156.out⟩, ⟨by repeat (first | (with_reducible first | exact HB.out | apply below_alloc | apply pw_below_drewN | apply below_drew1 | refine below_set ?_ GE142.out) | exact HB.out)⟩⟩
                              · rw [if_neg c41] at H
                                exact absurd H (by simp)
                            · rw [if_neg c40] at H
                              have c40b0 : ((rd x4_1 ((rd_T54 l0 x5_1).f3)) == x7_11) = false := beq_eq_false_iff_ne.mpr c40
                              have c40b1 : ((rd x4_1 ((rd_T54 l0 x5_1).f3)) != x7_11) = true := bne_iff_ne.mpr c40
                              simp only [Option.some.injEq, Prod.mk.injEq] at H
                              obtain ⟨rfl, rfl⟩ := H
                              have hcz45_0 : wc.cell? ⟨gb142, 0, none⟩ = some (.int .i64 ((rd_T54 l0 x5_1).f0)) := (blk_cell BK142.out 0).trans rfl
                              have hcz45_1 : wc.cell? ⟨gb142, 1, none⟩ = some (.int .i64 ((rd_T54 l0 x5_1).f1)) := (blk_cell BK142.out 1).trans rfl
                              have hcz45_2 : wc.cell? ⟨gb142, 2, none⟩ = some (.int .i64 ((rd_T54 l0 x5_1).f2)) := (blk_cell BK142.out 2).trans rfl
                              have hcz45_3 : wc.cell? ⟨gb142, 3, none⟩ = some (.int .i64 ((rd_T54 l0 x5_1).f3)) := (blk_cell BK142.out 3).trans rfl
                              have hfz45_0 := blk_frozen BK142.out 0
                              have hfz45_1 := blk_frozen BK142.out 1
                              have hfz45_2 := blk_frozen BK142.out 2
                              have hfz45_3 := blk_frozen BK142.out 3
                              go_wp2_with (first | (go_at_call 62; (with_reducible refine (spec_l3Two.calls ((rd_T54 l0 x5_1).f0) true _ A36.out).mono ?_); rintro e w' ⟨rfl, ⟨nd, rfl⟩⟩; obtain ⟨Ao46, co46, eo46⟩ := Kd.R_slice HO_4.out; subst eo46; have p153 : 0 ≤ (((rd_T54 l0 x5_1).f3) : Int) := of_decide_eq_true (by first | (with_reducible assumption) | assumption); have q153 : ((rd_T54 l0 x5_1).f3) < (x4_1.length : Int) := of_decide_eq_true (by first | (with_reducible assumption) | assumption); obtain ⟨ad153, e153, hx153_0⟩ := Kd.at_int (Kd.R_reads' HO_4.out).2.2 ((rd_T54 l0 x5_1).f3) p153 q153; cases e153; replace p153 := eq_true p153; replace q153 := eq_true q153))
                              go_ret2
                              exact ⟨_, by first | rfl | (simp [errW_none, errW_some] <;> rfl) | (simp [*, errW_none, errW_some] <;> rfl), by first | exact Kd.R_nil _ _ _ _ _ | exact Kd.N_nil _ _ _ _ _ | exact Kd.V_nil _ _ _ _ _ | exact Kd.Q_nil _ _ _ _ _ | exact Kd.S_nil _ _ _ _ _, by repeat (first | (with_reducible first | exact HB.out | apply below_alloc | apply pw_below_drewN | apply below_drew1 | refine below_set ?_ GE142.out) | exact HB.out)⟩
                          · rw [if_neg c39] at H
                            exact absurd H (by simp)
                        · rw [if_neg c38] at H
                          exact absurd H (by simp)
                      · replace c37 := Bool.eq_false_iff.mpr c37
                        subst c37
                        have H1 : (if x4_1.length < 17592186044416 then (spec_l3Types.l0 kj11 l0 (x4_1 ++ [2]) (wrap64 (x5_1 + 1))) else (none)) = some (r1, r2) := by rw [if_neg (show ¬ (false = true) by decide)] at H; exact H
                        clear H
                        have H := H1
                        clear H1
                        by_cases c47 : x4_1.length < 17592186044416
                        · rw [if_pos c47] at H
                          have LMc47 := Aside0.mk c47
                          clear c47
                          obtain ⟨y157, hy157⟩ : ∃ y_ : List Int, y_ = (x4_1 ++ [2]) := ⟨_, rfl⟩
                          replace H : (spec_l3Types.l0 kj11 l0 y157 (wrap64 (x5_1 + 1))) = some (r1, r2) := by first | (rw [hy157]; with_reducible exact H) | (have H2_ := (Option.bind_some _ _).symm.trans H; rw [hy157]; with_reducible exact H2_) | (have H2_ := (Option.bind_some _ _).symm.trans H; with_reducible exact H2_) | with_reducible exact H | (rw [hy157]; exact H) | exact H
                          have Ny157 := Aside0.mk hy157
                          clear hy157
                          have H' := Aside0.mk H
                          clear H
                          have hcz48_0 : wc.cell? ⟨gb142, 0, none⟩ = some (.int .i64 ((rd_T54 l0 x5_1).f0)) := (blk_cell BK142.out 0).trans rfl
                          have hcz48_1 : wc.cell? ⟨gb142, 1, none⟩ = some (.int .i64 ((rd_T54 l0 x5_1).f1)) := (blk_cell BK142.out 1).trans rfl
                          have hcz48_2 : wc.cell? ⟨gb142, 2, none⟩ = some (.int .i64 ((rd_T54 l0 x5_1).f2)) := (blk_cell BK142.out 2).trans rfl
                          have hcz48_3 : wc.cell? ⟨gb142, 3, none⟩ = some (.int .i64 ((rd_T54 l0 x5_1).f3)) := (blk_cell BK142.out 3).trans rfl
                          have hfz48_0 := blk_frozen BK142.out 0
                          have hfz48_1 := blk_frozen BK142.out 1
                          have hfz48_2 := blk_frozen BK142.out 2
                          have hfz48_3 := blk_frozen BK142.out 3
                          go_wp2_with (first | (go_at_call 62; (with_reducible refine (spec_l3Two.calls ((rd_T54 l0 x5_1).f0) false _ A36.out).mono ?_); rintro e w' ⟨rfl, ⟨nd, rfl⟩⟩) | ((with_reducible refine gate_builtin (b := .append) (xs := #[.tmp 57, .tmp 59]) rfl ?_); at_builtin; refine Kd.R_append (Kd.int .i64) (w0 := w) w.heap.size rfl (.tmp 57) (.tmp 59) 23 2 (.int .i64 0) 8 rfl Try.underlying23 info2 rfl (by decide) (by omega) u4 x4_1 2 [.int .i64 2] (fun _ => True) (fun _ => False) rfl rfl ?aP (fun _ hk => hk.elim) ?aF ?aO ?aB ?aS ?aL ?_; (case aP => exact rfl); (case aB => exact (by repeat (first | (with_reducible first | exact HB.out | apply below_alloc | apply pw_below_drewN | apply below_drew1 | refine below_set ?_ GE142.out) | exact HB.out))); (case aF => exact (fun _ _ => trivial)); (case aO => exact (by (with_reducible repeat (first | apply Kd.R_alloc | apply Kd.R_drewN | apply Kd.R_drew)); exact HO_4.out)); (case aS => exact (below_size (by repeat (first | (with_reducible first | exact HB.out | apply below_alloc | apply pw_below_drewN | apply below_drew1 | refine below_set ?_ GE142.out) | exact HB.out)))); (case aL => have := LMc47.out; omega); intro v158 w49 ho hb hg hat; rw [← Ny157.out] at ho; have n0_ := Aside0.mk (blk_grown (g := gb142) (o := .cells #[.int .i64 ((rd_T54 l0 x5_1).f0), .int .i64 ((rd_T54 l0 x5_1).f1), .int .i64 ((rd_T54 l0 x5_1).f2), .int .i64 ((rd_T54 l0 x5_1).f3)] 54 (0, 0)) (by (with_reducible repeat (first | refine blk_drewN ?_ _ | refine blk_drew ?_ | refine blk_alloc ?_ _)); exact BK142.out) hg (Kd.R_ne HO_4.out BK142.out (by decide))); have n1_ := Aside0.mk (hb); have n2_ := Aside0.mk (ho); clear BK142; clear HB; clear HO_4; have BK142 := n0_; have HB := n1_; have HO159 := n2_; clear n0_ n1_ n2_; clear ho hb hg hat))
                          go_roundg kj11
                          case measure => have := HK1.out; have := HJ5.out; have := HJ11.out; omega
                          case rel => exact ⟨(y157), (wrap64 (x5_1 + 1)), (by first | rfl | (simp; done) | (simp [*]; done)), H', ⟨by have := HK1.out; have := HJ5.out; have := HJ11.out; omega⟩, ⟨by (with_reducible repeat (first | apply Kd.R_alloc | apply Kd.R_drewN | apply Kd.R_drew)); exact HO159.out⟩, ⟨by repeat (first | (with_reducible first | exact HB.out | apply below_alloc | apply pw_below_drewN | apply below_drew1 | refine below_set ?_ GE142.out) | exact HB.out)⟩⟩
                        · rw [if_neg c47] at H
                          exact absurd H (by simp)
                  · rw [if_neg c14] at H
                    have c14b0 : decide (7 ≤ ((rd_T54 l0 x5_1).f0)) = false := decide_eq_false c14
                    clear c14
                    by_cases c50 : ((rd_T54 l0 x5_1).f0) > 2
                    · rw [if_pos c50] at H
                      have c50b0 : decide (2 < ((rd_T54 l0 x5_1).f0)) = true := decide_eq_true c50
                      clear c50
                      by_cases c51 : 0 ≤ ((rd_T54 l0 x5_1).f2)
                      · rw [if_pos c51] at H
                        have c51b0 : decide (0 ≤ ((rd_T54 l0 x5_1).f2)) = true := decide_eq_true c51
                        clear c51
                        by_cases c52 : ((rd_T54 l0 x5_1).f2) < (x4_1.length : Int)
                        · rw [if_pos c52] at H
                          have c52b0 : decide (((rd_T54 l0 x5_1).f2) < (x4_1.length : Int)) = true := decide_eq_true c52
                          clear c52
                          by_cases c53 : (rd x4_1 ((rd_T54 l0 x5_1).f2)) = x7_11
                          · rw [if_pos c53] at H
                            have c53b0 : ((rd x4_1 ((rd_T54 l0 x5_1).f2)) == x7_11) = true := beq_iff_eq.mpr c53
                            have c53b1 : ((rd x4_1 ((rd_T54 l0 x5_1).f2)) != x7_11) = false := bne_eq_false_iff_eq.mpr c53
                            clear c53
                            replace H := Option.bind_eq_some_iff.mp H
                            obtain ⟨t161, A540, H⟩ := H
                            replace H : (if t161 = true then (if 0 ≤ ((rd_T54 l0 x5_1).f3) then (if ((rd_T54 l0 x5_1).f3) < (x4_1.length : Int) then (if (rd x4_1 ((rd_T54 l0 x5_1).f3)) = x7_11 then (if x4_1.length < 17592186044416 then (spec_l3Types.l0 kj11 l0 (x4_1 ++ [1]) (wrap64 (x5_1 + 1))) else (none)) else (some (([] : List Int), false))) else (none)) else (none)) else (if x4_1.length < 17592186044416 then (spec_l3Types.l0 kj11 l0 (x4_1 ++ [1]) (wrap64 (x5_1 + 1))) else (none))) = some (r1, r2) := H
                            have A54 := Aside0.mk A540
                            clear A540
                            by_cases c55 : t161 = true
                            · subst c55
                              have H1 : (if 0 ≤ ((rd_T54 l0 x5_1).f3) then (if ((rd_T54 l0 x5_1).f3) < (x4_1.length : Int) then (if (rd x4_1 ((rd_T54 l0 x5_1).f3)) = x7_11 then (if x4_1.length < 17592186044416 then (spec_l3Types.l0 kj11 l0 (x4_1 ++ [1]) (wrap64 (x5_1 + 1))) else (none)) else (some (([] : List Int), false))) else (none)) else (none)) = some (r1, r2) := by rw [if_pos rfl] at H; exact H
                              clear H
                              have H := H1
                              clear H1
                              by_cases c56 : 0 ≤ ((rd_T54 l0 x5_1).f3)
                              · rw [if_pos c56] at H
                                have c56b0 : decide (0 ≤ ((rd_T54 l0 x5_1).f3)) = true := decide_eq_true c56
                                clear c56
                                by_cases c57 : ((rd_T54 l0 x5_1).f3) < (x4_1.length : Int)
                                · rw [if_pos c57] at H
                                  have c57b0 : decide (((rd_T54 l0 x5_1).f3) < (x4_1.length : Int)) = true := decide_eq_true c57
                                  clear c57
                                  by_cases c58 : (rd x4_1 ((rd_T54 l0 x5_1).f3)) = x7_11
                                  · rw [if_pos c58] at H
                                    have c58b0 : ((rd x4_1 ((rd_T54 l0 x5_1).f3)) == x7_11) = true := beq_iff_eq.mpr c58
                                    have c58b1 : ((rd x4_1 ((rd_T54 l0 x5_1).f3)) != x7_11) = false := bne_eq_false_iff_eq.mpr c58
                                    clear c58
                                    by_cases c59 : x4_1.length < 17592186044416
                                    · rw [if_pos c59] at H
                                      have LMc59 := Aside0.mk c59
                                      clear c59
                                      obtain ⟨y163, hy163⟩ : ∃ y_ : List Int, y_ = (x4_1 ++ [1]) := ⟨_, rfl⟩
                                      replace H : (spec_l3Types.l0 kj11 l0 y163 (wrap64 (x5_1 + 1))) = some (r1, r2) := by first | (rw [hy163]; with_reducible exact H) | (have H2_ := (Option.bind_some _ _).symm.trans H; rw [hy163]; with_reducible exact H2_) | (have H2_ := (Option.bind_some _ _).symm.trans H; with_reducible exact H2_) | with_reducible exact H | (rw [hy163]; exact H) | exact H
                                      have Ny163 := Aside0.mk hy163
                                      clear hy163
                                      have H' := Aside0.mk H
                                      clear H
                                      have hcz60_0 : wc.cell? ⟨gb142, 0, none⟩ = some (.int .i64 ((rd_T54 l0 x5_1).f0)) := (blk_cell BK142.out 0).trans rfl
                                      have hcz60_1 : wc.cell? ⟨gb142, 1, none⟩ = some (.int .i64 ((rd_T54 l0 x5_1).f1)) := (blk_cell BK142.out 1).trans rfl
                                      have hcz60_2 : wc.cell? ⟨gb142, 2, none⟩ = some (.int .i64 ((rd_T54 l0 x5_1).f2)) := (blk_cell BK142.out 2).trans rfl
                                      have hcz60_3 : wc.cell? ⟨gb142, 3, none⟩ = some (.int .i64 ((rd_T54 l0 x5_1).f3)) := (blk_cell BK142.out 3).trans rfl
                                      have hfz60_0 := blk_frozen BK142.out 0
                                      have hfz60_1 := blk_frozen BK142.out 1
                                      have hfz60_2 := blk_frozen BK142.out 2
                                      have hfz60_3 := blk_frozen BK142.out 3
                                      obtain ⟨Ao61, co61, eo61⟩ := Kd.R_slice HO_4.out
                                      subst eo61
                                      have p160 : 0 ≤ (((rd_T54 l0 x5_1).f2) : Int) := of_decide_eq_true (by first | (with_reducible assumption) | assumption)
                                      have q160 : ((rd_T54 l0 x5_1).f2) < (x4_1.length : Int) := of_decide_eq_true (by first | (with_reducible assumption) | assumption)
                                      obtain ⟨ad160, e160, hx160_0⟩ := Kd.at_int (Kd.R_reads' HO_4.out).2.2 ((rd_T54 l0 x5_1).f2) p160 q160
                                      cases e160
                                      replace p160 := eq_true p160
                                      replace q160 := eq_true q160
                                      go_wp2_with (first | (go_at_call 62; (with_reducible refine (spec_l3Two.calls ((rd_T54 l0 x5_1).f0) true _ A54.out).mono ?_); rintro e w' ⟨rfl, ⟨nd, rfl⟩⟩; have p162 : 0 ≤ (((rd_T54 l0 x5_1).f3) : Int) := of_decide_eq_true (by first | (with_reducible assumption) | assumption); have q162 : ((rd_T54 l0 x5_1).f3) < (x4_1.length : Int) := of_decide_eq_true (by first | (with_reducible assumption) | assumption); obtain ⟨ad162, e162, hx162_0⟩ := Kd.at_int (Kd.R_reads' HO_4.out).2.2 ((rd_T54 l0 x5_1).f3) p162 q162; obtain rfl : ad160 = ad162 := (by injection e162); replace p162 := eq_true p162; replace q162 := eq_true q162) | ((with_reducible refine gate_builtin (b := .append) (xs := #[.tmp 57, .tmp 59]) rfl ?_); at_builtin; refine Kd.R_append (Kd.int .i64) (w0 := w) w.heap.size rfl (.tmp 57) (.tmp 59) 23 2 (.int .i64 0) 8 rfl Try.underlying23 info2 rfl (by decide) (by omega) (.slice (some ad160) x4_1.length co61) x4_1 1 [.int .i64 1] (fun _ => True) (fun _ => False) rfl rfl ?aP (fun _ hk => hk.elim) ?aF ?aO ?aB ?aS ?aL ?_; (case aP => exact rfl); (case aB => exact (by repeat (first | (with_reducible first | exact HB.out | apply below_alloc | apply pw_below_drewN | apply below_drew1 | refine below_set ?_ GE142.out) | exact HB.out))); (case aF => exact (fun _ _ => trivial)); (case aO => exact (by (with_reducible repeat (first | apply Kd.R_alloc | apply Kd.R_drewN | apply Kd.R_drew)); exact HO_4.out)); (case aS => exact (below_size (by repeat (first | (with_reducible first | exact HB.out | apply below_alloc | apply pw_below_drewN | apply below_drew1 | refine below_set ?_ GE142.out) | exact HB.out)))); (case aL => have := LMc59.out; omega); intro v164 w62 ho hb hg hat; rw [← Ny163.out] at ho; have n0_ := Aside0.mk (blk_grown (g := gb142) (o := .cells #[.int .i64 ((rd_T54 l0 x5_1).f0), .int .i64 ((rd_T54 l0 x5_1).f1), .int .i64 ((rd_T54 l0 x5_1).f2), .int .i64 ((rd_T54 l0 x5_1).f3)] 54 (0, 0)) (by (with_reducible repeat (first | refine blk_drewN ?_ _ | refine blk_drew ?_ | refine blk_alloc ?_ _)); exact BK142.out) hg (Kd.R_ne HO_4.out BK142.out (by decide))); have n1_ := Aside0.mk (hb); have n2_ := Aside0.mk (ho); clear BK142; clear HB; clear HO_4; have BK142 := n0_; have HB := n1_; have HO165 := n2_; clear n0_ n1_ n2_; clear ho hb hg hat))
                                      go_roundg kj11
                                      case measure => have := HK1.out; have := HJ5.out; have := HJ11.out; omega
                                      case rel => exact ⟨(y163), (wrap64 (x5_1 + 1)), (by first | rfl | (simp; done) | (simp [*]; done)), H', ⟨by have := HK1.out; have := HJ5.out; have := HJ11.out; omega⟩, ⟨by (with_reducible repeat (first | apply Kd.R_alloc | apply Kd.R_drewN | apply Kd.R_drew)); exact HO165.out⟩, ⟨by repeat (first | (with_reducible first | exact HB.out | apply below_alloc | apply pw_below_drewN | apply below_drew1 | refine below_set ?_ GE142.out) | exact HB.out)⟩⟩
                                    · rw [if_neg c59] at H
                                      exact absurd H (by simp)
                                  · rw [if_neg c58] at H
                                    have c58b0 : ((rd x4_1 ((rd_T54 l0 x5_1).f3)) == x7_11) = false := beq_eq_false_iff_ne.mpr c58
                                    have c58b1 : ((rd x4_1 ((rd_T54 l0 x5_1).f3)) != x7_11) = true := bne_iff_ne.mpr c58
                                    simp only [Option.some.injEq, Prod.mk.injEq] at H
                                    obtain ⟨rfl, rfl⟩ := H
                                    have hcz63_0 : wc.cell? ⟨gb142, 0, none⟩ = some (.int .i64 ((rd_T54 l0 x5_1).f0)) := (blk_cell BK142.out 0).trans rfl
                                    have hcz63_1 : wc.cell? ⟨gb142, 1, none⟩ = some (.int .i64 ((rd_T54 l0 x5_1).f1)) := (blk_cell BK142.out 1).trans rfl
                                    have hcz63_2 : wc.cell? ⟨gb142, 2, none⟩ = some (.int .i64 ((rd_T54 l0 x5_1).f2)) := (blk_cell BK142.out 2).trans rfl
                                    have hcz63_3 : wc.cell? ⟨gb142, 3, none⟩ = some (.int .i64 ((rd_T54 l0 x5_1).f3)) := (blk_cell BK142.out 3).trans rfl
                                    have hfz63_0 := blk_frozen BK142.out 0
                                    have hfz63_1 := blk_frozen BK142.out 1
                                    have hfz63_2 := blk_frozen BK142.out 2
                                    have hfz63_3 := blk_frozen BK142.out 3
                                    obtain ⟨Ao64, co64, eo64⟩ := Kd.R_slice HO_4.out
                                    subst eo64
                                    have p160 : 0 ≤ (((rd_T54 l0 x5_1).f2) : Int) := of_decide_eq_true (by first | (with_reducible assumption) | assumption)
                                    have q160 : ((rd_T54 l0 x5_1).f2) < (x4_1.length : Int) := of_decide_eq_true (by first | (with_reducible assumption) | assumption)
                                    obtain ⟨ad160, e160, hx160_0⟩ := Kd.at_int (Kd.R_reads' HO_4.out).2.2 ((rd_T54 l0 x5_1).f2) p160 q160
                                    cases e160
                                    replace p160 := eq_true p160
                                    replace q160 := eq_true q160
                                    go_wp2_with (first | (go_at_call 62; (with_reducible refine (spec_l3Two.calls ((rd_T54 l0 x5_1).f0) true _ A54.out).mono ?_); rintro e w' ⟨rfl, ⟨nd, rfl⟩⟩; have p162 : 0 ≤ (((rd_T54 l0 x5_1).f3) : Int) := of_decide_eq_true (by first | (with_reducible assumption) | assumption); have q162 : ((rd_T54 l0 x5_1).f3) < (x4_1.length : Int) := of_decide_eq_true (by first | (with_reducible assumption) | assumption); obtain ⟨ad162, e162, hx162_0⟩ := Kd.at_int (Kd.R_reads' HO_4.out).2.2 ((rd_T54 l0 x5_1).f3) p162 q162; obtain rfl : ad160 = ad162 := (by injection e162); replace p162 := eq_true p162; replace q162 := eq_true q162))
                                    go_ret2
                                    exact ⟨_, by first | rfl | (simp [errW_none, errW_some] <;> rfl) | (simp [*, errW_none, errW_some] <;> rfl), by first | exact Kd.R_nil _ _ _ _ _ | exact Kd.N_nil _ _ _ _ _ | exact Kd.V_nil _ _ _ _ _ | exact Kd.Q_nil _ _ _ _ _ | exact Kd.S_nil _ _ _ _ _, by repeat (first | (with_reducible first | exact HB.out | apply below_alloc | apply pw_below_drewN | apply below_drew1 | refine below_set ?_ GE142.out) | exact HB.out)⟩
                                · rw [if_neg c57] at H
                                  exact absurd H (by simp)
                              · rw [if_neg c56] at H
                                exact absurd H (by simp)
                            · replace c55 := Bool.eq_false_iff.mpr c55
                              subst c55
                              have H1 : (if x4_1.length < 17592186044416 then (spec_l3Types.l0 kj11 l0 (x4_1 ++ [1]) (wrap64 (x5_1 + 1))) else (none)) = some (r1, r2) := by rw [if_neg (show ¬ (false = true) by decide)] at H; exact H
                              clear H
                              have H := H1
                              clear H1
                              by_cases c65 : x4_1.length < 17592186044416
                              · rw [if_pos c65] at H
                                have LMc65 := Aside0.mk c65
                                clear c65
                                obtain ⟨y166, hy166⟩ : ∃ y_ : List Int, y_ = (x4_1 ++ [1]) := ⟨_, rfl⟩
                                replace H : (spec_l3Types.l0 kj11 l0 y166 (wrap64 (x5_1 + 1))) = some (r1, r2) := by first | (rw [hy166]; with_reducible exact H) | (have H2_ := (Option.bind_some _ _).symm.trans H; rw [hy166]; with_reducible exact H2_) | (have H2_ := (Option.bind_some _ _).symm.trans H; with_reducible exact H2_) | with_reducible exact H | (rw [hy166]; exact H) | exact H
                                have Ny166 := Aside0.mk hy166
                                clear hy166
                                have H' := Aside0.mk H
                                clear H
                                have hcz66_0 : wc.cell? ⟨gb142, 0, none⟩ = some (.int .i64 ((rd_T54 l0 x5_1).f0)) := (blk_cell BK142.out 0).trans rfl
                                have hcz66_1 : wc.cell? ⟨gb142, 1, none⟩ = some (.int .i64 ((rd_T54 l0 x5_1).f1)) := (blk_cell BK142.out 1).trans rfl
                                have hcz66_2 : wc.cell? ⟨gb142, 2, none⟩ = some (.int .i64 ((rd_T54 l0 x5_1).f2)) := (blk_cell BK142.out 2).trans rfl
                                have hcz66_3 : wc.cell? ⟨gb142, 3, none⟩ = some (.int .i64 ((rd_T54 l0 x5_1).f3)) := (blk_cell BK142.out 3).trans rfl
                                have hfz66_0 := blk_frozen BK142.out 0
                                have hfz66_1 := blk_frozen BK142.out 1
                                have hfz66_2 := blk_frozen BK142.out 2
                                have hfz66_3 := blk_frozen BK142.out 3
                                obtain ⟨Ao67, co67, eo67⟩ := Kd.R_slice HO_4.out
                                subst eo67
                                have p160 : 0 ≤ (((rd_T54 l0 x5_1).f2) : Int) := of_decide_eq_true (by first | (with_reducible assumption) | assumption)
                                have q160 : ((rd_T54 l0 x5_1).f2) < (x4_1.length : Int) := of_decide_eq_true (by first | (with_reducible assumption) | assumption)
                                obtain ⟨ad160, e160, hx160_0⟩ := Kd.at_int (Kd.R_reads' HO_4.out).2.2 ((rd_T54 l0 x5_1).f2) p160 q160
                                cases e160
                                replace p160 := eq_true p160
                                replace q160 := eq_true q160
                                go_wp2_with (first | (go_at_call 62; (with_reducible refine (spec_l3Two.calls ((rd_T54 l0 x5_1).f0) false _ A54.out).mono ?_); rintro e w' ⟨rfl, ⟨nd, rfl⟩⟩) | ((with_reducible refine gate_builtin (b := .append) (xs := #[.tmp 57, .tmp 59]) rfl ?_); at_builtin; refine Kd.R_append (Kd.int .i64) (w0 := w) w.heap.size rfl (.tmp 57) (.tmp 59) 23 2 (.int .i64 0) 8 rfl Try.underlying23 info2 rfl (by decide) (by omega) (.slice (some ad160) x4_1.length co67) x4_1 1 [.int .i64 1] (fun _ => True) (fun _ => False) rfl rfl ?aP (fun _ hk => hk.elim) ?aF ?aO ?aB ?aS ?aL ?_; (case aP => exact rfl); (case aB => exact (by repeat (first | (with_reducible first | exact HB.out | apply below_alloc | apply pw_below_drewN | apply below_drew1 | refine below_set ?_ GE142.out) | exact HB.out))); (case aF => exact (fun _ _ => trivial)); (case aO => exact (by (with_reducible repeat (first | apply Kd.R_alloc | apply Kd.R_drewN | apply Kd.R_drew)); exact HO_4.out)); (case aS => exact (below_size (by repeat (first | (with_reducible first | exact HB.out | apply below_alloc | apply pw_below_drewN | apply below_drew1 | refine below_set ?_ GE142.out) | exact HB.out)))); (case aL => have := LMc65.out; omega); intro v167 w68 ho hb hg hat; rw [← Ny166.out] at ho; have n0_ := Aside0.mk (blk_grown (g := gb142) (o := .cells #[.int .i64 ((rd_T54 l0 x5_1).f0), .int .i64 ((rd_T54 l0 x5_1).f1), .int .i64 ((rd_T54 l0 x5_1).f2), .int .i64 ((rd_T54 l0 x5_1).f3)] 54 (0, 0)) (by (with_reducible repeat (first | refine blk_drewN ?_ _ | refine blk_drew ?_ | refine blk_alloc ?_ _)); exact BK142.out) hg (Kd.R_ne HO_4.out BK142.out (by decide))); have n1_ := Aside0.mk (hb); have n2_ := Aside0.mk (ho); clear BK142; clear HB; clear HO_4; have BK142 := n0_; have HB := n1_; have HO168 := n2_; clear n0_ n1_ n2_; clear ho hb hg hat))
                                go_roundg kj11
                                case measure => have := HK1.out; have := HJ5.out; have := HJ11.out; omega
                                case rel => exact ⟨(y166), (wrap64 (x5_1 + 1)), (by first | rfl | (simp; done) | (simp [*]; done)), H', ⟨by have := HK1.out; have := HJ5.out; have := HJ11.out; omega⟩, ⟨by (with_reducible repeat (first | apply Kd.R_alloc | apply Kd.R_drewN | apply Kd.R_drew)); exact HO168.out⟩, ⟨by repeat (first | (with_reducible first | exact HB.out | apply below_alloc | apply pw_below_drewN | apply below_drew1 | refine below_set ?_ GE142.out) | exact HB.out)⟩⟩
                              · rw [if_neg c65] at H
                                exact absurd H (by simp)
                          · rw [if_neg c53] at H
                            have c53b0 : ((rd x4_1 ((rd_T54 l0 x5_1).f2)) == x7_11) = false := beq_eq_false_iff_ne.mpr c53
                            have c53b1 : ((rd x4_1 ((rd_T54 l0 x5_1).f2)) != x7_11) = true := bne_iff_ne.mpr c53
                            simp only [Option.some.injEq, Prod.mk.injEq] at H
                            obtain ⟨rfl, rfl⟩ := H
                            have hcz69_0 : wc.cell? ⟨gb142, 0, none⟩ = some (.int .i64 ((rd_T54 l0 x5_1).f0)) := (blk_cell BK142.out 0).trans rfl
                            have hcz69_1 : wc.cell? ⟨gb142, 1, none⟩ = some (.int .i64 ((rd_T54 l0 x5_1).f1)) := (blk_cell BK142.out 1).trans rfl
                            have hcz69_2 : wc.cell? ⟨gb142, 2, none⟩ = some (.int .i64 ((rd_T54 l0 x5_1).f2)) := (blk_cell BK142.out 2).trans rfl
                            have hcz69_3 : wc.cell? ⟨gb142, 3, none⟩ = some (.int .i64 ((rd_T54 l0 x5_1).f3)) := (blk_cell BK142.out 3).trans rfl
                            have hfz69_0 := blk_frozen BK142.out 0
                            have hfz69_1 := blk_frozen BK142.out 1
                            have hfz69_2 := blk_frozen BK142.out 2
                            have hfz69_3 := blk_frozen BK142.out 3
                            obtain ⟨Ao70, co70, eo70⟩ := Kd.R_slice HO_4.out
                            subst eo70
                            have p160 : 0 ≤ (((rd_T54 l0 x5_1).f2) : Int) := of_decide_eq_true (by first | (with_reducible assumption) | assumption)
                            have q160 : ((rd_T54 l0 x5_1).f2) < (x4_1.length : Int) := of_decide_eq_true (by first | (with_reducible assumption) | assumption)
                            obtain ⟨ad160, e160, hx160_0⟩ := Kd.at_int (Kd.R_reads' HO_4.out).2.2 ((rd_T54 l0 x5_1).f2) p160 q160
                            cases e160
                            replace p160 := eq_true p160
                            replace q160 := eq_true q160
                            go_wp2
                            go_ret2
                            exact ⟨_, by first | rfl | (simp [errW_none, errW_some] <;> rfl) | (simp [*, errW_none, errW_some] <;> rfl), by first | exact Kd.R_nil _ _ _ _ _ | exact Kd.N_nil _ _ _ _ _ | exact Kd.V_nil _ _ _ _ _ | exact Kd.Q_nil _ _ _ _ _ | exact Kd.S_nil _ _ _ _ _, by repeat (first | (with_reducible first | exact HB.out | apply below_alloc | apply pw_below_drewN | apply below_drew1 | refine below_set ?_ GE142.out) | exact HB.out)⟩
                        · rw [if_neg c52] at H
                          exact absurd H (by simp)
                      · rw [if_neg c51] at H
                        exact absurd H (by simp)
                    · rw [if_neg c50] at H
                      have c50b0 : decide (2 < ((rd_T54 l0 x5_1).f0)) = false := decide_eq_false c50
                      clear c50
                      replace H := Option.bind_eq_some_iff.mp H
                      obtain ⟨t169, A710, H⟩ := H
                      replace H : (if t169 = true then (if 0 ≤ ((rd_T54 l0 x5_1).f3) then (if ((rd_T54 l0 x5_1).f3) < (x4_1.length : Int) then (if (rd x4_1 ((rd_T54 l0 x5_1).f3)) = x7_11 then (if x4_1.length < 17592186044416 then (spec_l3Types.l0 kj11 l0 (x4_1 ++ [1]) (wrap64 (x5_1 + 1))) else (none)) else (some (([] : List Int), false))) else (none)) else (none)) else (if x4_1.length < 17592186044416 then (spec_l3Types.l0 kj11 l0 (x4_1 ++ [1]) (wrap64 (x5_1 + 1))) else (none))) = some (r1, r2) := H
                      have A71 := Aside0.mk A710
                      clear A710
                      by_cases c72 : t169 = true
                      · subst c72
                        have H1 : (if 0 ≤ ((rd_T54 l0 x5_1).f3) then (if ((rd_T54 l0 x5_1).f3) < (x4_1.length : Int) then (if (rd x4_1 ((rd_T54 l0 x5_1).f3)) = x7_11 then (if x4_1.length < 17592186044416 then (spec_l3Types.l0 kj11 l0 (x4_1 ++ [1]) (wrap64 (x5_1 + 1))) else (none)) else (some (([] : List Int), false))) else (none)) else (none)) = some (r1, r2) := by rw [if_pos rfl] at H; exact H
                        clear H
                        have H := H1
                        clear H1
                        by_cases c73 : 0 ≤ ((rd_T54 l0 x5_1).f3)
                        · rw [if_pos c73] at H
                          have c73b0 : decide (0 ≤ ((rd_T54 l0 x5_1).f3)) = true := decide_eq_true c73
                          clear c73
                          by_cases c74 : ((rd_T54 l0 x5_1).f3) < (x4_1.length : Int)
                          · rw [if_pos c74] at H
                            have c74b0 : decide (((rd_T54 l0 x5_1).f3) < (x4_1.length : Int)) = true := decide_eq_true c74
                            clear c74
                            by_cases c75 : (rd x4_1 ((rd_T54 l0 x5_1).f3)) = x7_11
                            · rw [if_pos c75] at H
                              have c75b0 : ((rd x4_1 ((rd_T54 l0 x5_1).f3)) == x7_11) = true := beq_iff_eq.mpr c75
                              have c75b1 : ((rd x4_1 ((rd_T54 l0 x5_1).f3)) != x7_11) = false := bne_eq_false_iff_eq.mpr c75
                              clear c75
                              by_cases c76 : x4_1.length < 17592186044416
                              · rw [if_pos c76] at H
                                have LMc76 := Aside0.mk c76
                                clear c76
                                obtain ⟨y171, hy171⟩ : ∃ y_ : List Int, y_ = (x4_1 ++ [1]) := ⟨_, rfl⟩
                                replace H : (spec_l3Types.l0 kj11 l0 y171 (wrap64 (x5_1 + 1))) = some (r1, r2) := by first | (rw [hy171]; with_reducible exact H) | (have H2_ := (Option.bind_some _ _).symm.trans H; rw [hy171]; with_reducible exact H2_) | (have H2_ := (Option.bind_some _ _).symm.trans H; with_reducible exact H2_) | with_reducible exact H | (rw [hy171]; exact H) | exact H
                                have Ny171 := Aside0.mk hy171
                                clear hy171
                                have H' := Aside0.mk H
                                clear H
                                have hcz77_0 : wc.cell? ⟨gb142, 0, none⟩ = some (.int .i64 ((rd_T54 l0 x5_1).f0)) := (blk_cell BK142.out 0).trans rfl
                                have hcz77_1 : wc.cell? ⟨gb142, 1, none⟩ = some (.int .i64 ((rd_T54 l0 x5_1).f1)) := (blk_cell BK142.out 1).trans rfl
                                have hcz77_2 : wc.cell? ⟨gb142, 2, none⟩ = some (.int .i64 ((rd_T54 l0 x5_1).f2)) := (blk_cell BK142.out 2).trans rfl
                                have hcz77_3 : wc.cell? ⟨gb142, 3, none⟩ = some (.int .i64 ((rd_T54 l0 x5_1).f3)) := (blk_cell BK142.out 3).trans rfl
                                have hfz77_0 := blk_frozen BK142.out 0
                                have hfz77_1 := blk_frozen BK142.out 1
                                have hfz77_2 := blk_frozen BK142.out 2
                                have hfz77_3 := blk_frozen BK142.out 3
                                go_wp2_with (first | (go_at_call 62; (with_reducible refine (spec_l3Two.calls ((rd_T54 l0 x5_1).f0) true _ A71.out).mono ?_); rintro e w' ⟨rfl, ⟨nd, rfl⟩⟩; obtain ⟨Ao78, co78, eo78⟩ := Kd.R_slice HO_4.out; subst eo78; have p170 : 0 ≤ (((rd_T54 l0 x5_1).f3) : Int) := of_decide_eq_true (by first | (with_reducible assumption) | assumption); have q170 : ((rd_T54 l0 x5_1).f3) < (x4_1.length : Int) := of_decide_eq_true (by first | (with_reducible assumption) | assumption); obtain ⟨ad170, e170, hx170_0⟩ := Kd.at_int (Kd.R_reads' HO_4.out).2.2 ((rd_T54 l0 x5_1).f3) p170 q170; cases e170; replace p170 := eq_true p170; replace q170 := eq_true q170) | ((with_reducible refine gate_builtin (b := .append) (xs := #[.tmp 57, .tmp 59]) rfl ?_); at_builtin; refine Kd.R_append (Kd.int .i64) (w0 := w) w.heap.size rfl (.tmp 57) (.tmp 59) 23 2 (.int .i64 0) 8 rfl Try.underlying23 info2 rfl (by decide) (by omega) (.slice (some ad170) x4_1.length co78) x4_1 1 [.int .i64 1] (fun _ => True) (fun _ => False) rfl rfl ?aP (fun _ hk => hk.elim) ?aF ?aO ?aB ?aS ?aL ?_; (case aP => exact rfl); (case aB => exact (by repeat (first | (with_reducible first | exact HB.out | apply below_alloc | apply pw_below_drewN | apply below_drew1 | refine below_set ?_ GE142.out) | exact HB.out))); (case aF => exact (fun _ _ => trivial)); (case aO => exact (by (with_reducible repeat (first | apply Kd.R_alloc | apply Kd.R_drewN | apply Kd.R_drew)); exact HO_4.out)); (case aS => exact (below_size (by repeat (first | (with_reducible first | exact HB.out | apply below_alloc | apply pw_below_drewN | apply below_drew1 | refine below_set ?_ GE142.out) | exact HB.out)))); (case aL => have := LMc76.out; omega); intro v172 w79 ho hb hg hat; rw [← Ny171.out] at ho; have n0_ := Aside0.mk (blk_grown (g := gb142) (o := .cells #[.int .i64 ((rd_T54 l0 x5_1).f0), .int .i64 ((rd_T54 l0 x5_1).f1), .int .i64 ((rd_T54 l0 x5_1).f2), .int .i64 ((rd_T54 l0 x5_1).f3)] 54 (0, 0)) (by (with_reducible repeat (first | refine blk_drewN ?_ _ | refine blk_drew ?_ | refine blk_alloc ?_ _)); exact BK142.out) hg (Kd.R_ne HO_4.out BK142.out (by decide))); have n1_ := Aside0.mk (hb); have n2_ := Aside0.mk (ho); clear BK142; clear HB; clear HO_4; have BK142 := n0_; have HB := n1_; have HO173 := n2_; clear n0_ n1_ n2_; clear ho hb hg hat))
                                go_roundg kj11
                                case measure => have := HK1.out; have := HJ5.out; have := HJ11.out; omega
                                case rel => exact ⟨(y171), (wrap64 (x5_1 + 1)), (by first | rfl | (simp; done) | (simp [*]; done)), H', ⟨by have := HK1.out; have := HJ5.out; have := HJ11.out; omega⟩, ⟨by (with_reducible repeat (first | apply Kd.R_alloc | apply Kd.R_drewN | apply Kd.R_drew)); exact HO173.out⟩, ⟨by repeat (first | (with_reducible first | exact HB.out | apply below_alloc | apply pw_below_drewN | apply below_drew1 | refine below_set ?_ GE142.out) | exact HB.out)⟩⟩
                              · rw [if_neg c76] at H
                                exact absurd H (by simp)
                            · rw [if_neg c75] at H
                              have c75b0 : ((rd x4_1 ((rd_T54 l0 x5_1).f3)) == x7_11) = false := beq_eq_false_iff_ne.mpr c75
                              have c75b1 : ((rd x4_1 ((rd_T54 l0 x5_1).f3)) != x7_11) = true := bne_iff_ne.mpr c75
                              simp only [Option.some.injEq, Prod.mk.injEq] at H
                              obtain ⟨rfl, rfl⟩ := H
                              have hcz80_0 : wc.cell? ⟨gb142, 0, none⟩ = some (.int .i64 ((rd_T54 l0 x5_1).f0)) := (blk_cell BK142.out 0).trans rfl
                              have hcz80_1 : wc.cell? ⟨gb142, 1, none⟩ = some (.int .i64 ((rd_T54 l0 x5_1).f1)) := (blk_cell BK142.out 1).trans rfl
                              have hcz80_2 : wc.cell? ⟨gb142, 2, none⟩ = some (.int .i64 ((rd_T54 l0 x5_1).f2)) := (blk_cell BK142.out 2).trans rfl
                              have hcz80_3 : wc.cell? ⟨gb142, 3, none⟩ = some (.int .i64 ((rd_T54 l0 x5_1).f3)) := (blk_cell BK142.out 3).trans rfl
                              have hfz80_0 := blk_frozen BK142.out 0
                              have hfz80_1 := blk_frozen BK142.out 1
                              have hfz80_2 := blk_frozen BK142.out 2
                              have hfz80_3 := blk_frozen BK142.out 3
                              go_wp2_with (first | (go_at_call 62; (with_reducible refine (spec_l3Two.calls ((rd_T54 l0 x5_1).f0) true _ A71.out).mono ?_); rintro e w' ⟨rfl, ⟨nd, rfl⟩⟩; obtain ⟨Ao81, co81, eo81⟩ := Kd.R_slice HO_4.out; subst eo81; have p170 : 0 ≤ (((rd_T54 l0 x5_1).f3) : Int) := of_decide_eq_true (by first | (with_reducible assumption) | assumption); have q170 : ((rd_T54 l0 x5_1).f3) < (x4_1.length : Int) := of_decide_eq_true (by first | (with_reducible assumption) | assumption); obtain ⟨ad170, e170, hx170_0⟩ := Kd.at_int (Kd.R_reads' HO_4.out).2.2 ((rd_T54 l0 x5_1).f3) p170 q170; cases e170; replace p170 := eq_true p170; replace q170 := eq_true q170))
                              go_ret2
                              exact ⟨_, by first | rfl | (simp [errW_none, errW_some] <;> rfl) | (simp [*, errW_none, errW_some] <;> rfl), by first | exact Kd.R_nil _ _ _ _ _ | exact Kd.N_nil _ _ _ _ _ | exact Kd.V_nil _ _ _ _ _ | exact Kd.Q_nil _ _ _ _ _ | exact Kd.S_nil _ _ _ _ _, by repeat (first | (with_reducible first | exact HB.out | apply below_alloc | apply pw_below_drewN | apply below_drew1 | refine below_set ?_ GE142.out) | exact HB.out)⟩
                          · rw [if_neg c74] at H
                            exact absurd H (by simp)
                        · rw [if_neg c73] at H
                          exact absurd H (by simp)
                      · replace c72 := Bool.eq_false_iff.mpr c72
                        subst c72
                        have H1 : (if x4_1.length < 17592186044416 then (spec_l3Types.l0 kj11 l0 (x4_1 ++ [1]) (wrap64 (x5_1 + 1))) else (none)) = some (r1, r2) := by rw [if_neg (show ¬ (false = true) by decide)] at H; exact H
                        clear H
                        have H := H1
                        clear H1
                        by_cases c82 : x4_1.length < 17592186044416
                        · rw [if_pos c82] at H
                          have LMc82 := Aside0.mk c82
                          clear c82
                          obtain ⟨y174, hy174⟩ : ∃ y_ : List Int, y_ = (x4_1 ++ [1]) := ⟨_, rfl⟩
                          replace H : (spec_l3Types.l0 kj11 l0 y174 (wrap64 (x5_1 + 1))) = some (r1, r2) := by first | (rw [hy174]; with_reducible exact H) | (have H2_ := (Option.bind_some _ _).symm.trans H; rw [hy174]; with_reducible exact H2_) | (have H2_ := (Option.bind_some _ _).symm.trans H; with_reducible exact H2_) | with_reducible exact H | (rw [hy174]; exact H) | exact H
                          have Ny174 := Aside0.mk hy174
                          clear hy174
                          have H' := Aside0.mk H
                          clear H
                          have hcz83_0 : wc.cell? ⟨gb142, 0, none⟩ = some (.int .i64 ((rd_T54 l0 x5_1).f0)) := (blk_cell BK142.out 0).trans rfl
                          have hcz83_1 : wc.cell? ⟨gb142, 1, none⟩ = some (.int .i64 ((rd_T54 l0 x5_1).f1)) := (blk_cell BK142.out 1).trans rfl
                          have hcz83_2 : wc.cell? ⟨gb142, 2, none⟩ = some (.int .i64 ((rd_T54 l0 x5_1).f2)) := (blk_cell BK142.out 2).trans rfl
                          have hcz83_3 : wc.cell? ⟨gb142, 3, none⟩ = some (.int .i64 ((rd_T54 l0 x5_1).f3)) := (blk_cell BK142.out 3).trans rfl
                          have hfz83_0 := blk_frozen BK142.out 0
                          have hfz83_1 := blk_frozen BK142.out 1
                          have hfz83_2 := blk_frozen BK142.out 2
                          have hfz83_3 := blk_frozen BK142.out 3
                          go_wp2_with (first | (go_at_call 62; (with_reducible refine (spec_l3Two.calls ((rd_T54 l0 x5_1).f0) false _ A71.out).mono ?_); rintro e w' ⟨rfl, ⟨nd, rfl⟩⟩) | ((with_reducible refine gate_builtin (b := .append) (xs := #[.tmp 57, .tmp 59]) rfl ?_); at_builtin; refine Kd.R_append (Kd.int .i64) (w0 := w) w.heap.size rfl (.tmp 57) (.tmp 59) 23 2 (.int .i64 0) 8 rfl Try.underlying23 info2 rfl (by decide) (by omega) u4 x4_1 1 [.int .i64 1] (fun _ => True) (fun _ => False) rfl rfl ?aP (fun _ hk => hk.elim) ?aF ?aO ?aB ?aS ?aL ?_; (case aP => exact rfl); (case aB => exact (by repeat (first | (with_reducible first | exact HB.out | apply below_alloc | apply pw_below_drewN | apply below_drew1 | refine below_set ?_ GE142.out) | exact HB.out))); (case aF => exact (fun _ _ => trivial)); (case aO => exact (by (with_reducible repeat (first | apply Kd.R_alloc | apply Kd.R_drewN | apply Kd.R_drew)); exact HO_4.out)); (case aS => exact (below_size (by repeat (first | (with_reducible first | exact HB.out | apply below_alloc | apply pw_below_drewN | apply below_drew1 | refine below_set ?_ GE142.out) | exact HB.out)))); (case aL => have := LMc82.out; omega); intro v175 w84 ho hb hg hat; rw [← Ny174.out] at ho; have n0_ := Aside0.mk (blk_grown (g := gb142) (o := .cells #[.int .i64 ((rd_T54 l0 x5_1).f0), .int .i64 ((rd_T54 l0 x5_1).f1), .int .i64 ((rd_T54 l0 x5_1).f2), .int .i64 ((rd_T54 l0 x5_1).f3)] 54 (0, 0)) (by (with_reducible repeat (first | refine blk_drewN ?_ _ | refine blk_drew ?_ | refine blk_alloc ?_ _)); exact BK142.out) hg (Kd.R_ne HO_4.out BK142.out (by decide))); have n1_ := Aside0.mk (hb); have n2_ := Aside0.mk (ho); clear BK142; clear HB; clear HO_4; have BK142 := n0_; have HB := n1_; have HO176 := n2_; clear n0_ n1_ n2_; clear ho hb hg hat))
                          go_roundg kj11
                          case measure => have := HK1.out; have := HJ5.out; have := HJ11.out; omega
                          case rel => exact ⟨(y174), (wrap64 (x5_1 + 1)), (by first | rfl | (simp; done) | (simp [*]; done)), H', ⟨by have := HK1.out; have := HJ5.out; have := HJ11.out; omega⟩, ⟨by (with_reducible repeat (first | apply Kd.R_alloc | apply Kd.R_drewN | apply Kd.R_drew)); exact HO176.out⟩, ⟨by repeat (first | (with_reducible first | exact HB.out | apply below_alloc | apply pw_below_drewN | apply below_drew1 | refine below_set ?_ GE142.out) | exact HB.out)⟩⟩
                        · rw [if_neg c82] at H
                          exact absurd H (by simp)
        · rw [if_neg c5] at H
          exact absurd H (by simp)
      · rw [if_neg c4] at H
        have c4b0 : decide (x5_1 < (l0.length : Int)) = false := decide_eq_false c4
        clear c4
        simp only [Option.some.injEq, Prod.mk.injEq] at H
        obtain ⟨rfl, rfl⟩ := H
        go_wp2
        go_ret2
        exact ⟨_, by first | rfl | (simp [errW_none, errW_some] <;> rfl) | (simp [*, errW_none, errW_some] <;> rfl), by (with_reducible repeat (first | apply Kd.R_alloc | apply Kd.R_drewN | apply Kd.R_drew)); exact HO_4.out, by repeat (first | (with_reducible first | exact HB.out | apply below_alloc | apply pw_below_drewN | apply below_drew1) | exact HB.out)⟩

/-! ### spec_l3Type: function 26 -/
def spec_l3Type.f (k : Nat) (l0 : List (S54)) : Option (Int × Int) := (spec_l3Fault.f k l0).bind fun t177 => (if t177 = 0 then ((spec_l3Types.f k l0).bind fun bt178 => (if bt178.2 = true then (if 0 ≤ (wrap64 ((bt178.1.length : Int) - 1)) then (if (wrap64 ((bt178.1.length : Int) - 1)) < (bt178.1.length : Int) then (some (rd bt178.1 (wrap64 ((bt178.1.length : Int) - 1)), 0)) else (none)) else (none)) else (some (0, 7)))) else (some (0, t177)))
theorem spec_l3Type.mono : ∀ a0 k, LeO (spec_l3Type.f k a0) (spec_l3Type.f (k + 1) a0) := by
  intro a0 k
  unfold spec_l3Type.f
  repeat' first
      | (with_reducible exact spec_l3Fault.mono _ _)
      | (with_reducible exact spec_l3Types.mono _ _)
      | (with_reducible exact LeO.refl _)
      | (with_reducible exact LeO.none _)
      | (with_reducible refine LeO.ite ?_ ?_)
      | (with_reducible refine LeO.bind ?_ (fun _ => ?_))
      | exact spec_l3Fault.mono _ _
      | exact spec_l3Types.mono _ _
      | exact LeO.none _
      | refine LeO.ite ?_ ?_
      | refine LeO.bind ?_ (fun _ => ?_)
set_option maxHeartbeats 8000000 in
set_option maxRecDepth 100000 in
theorem spec_l3Type.calls (k : Nat) (A0 : Option Addr) (c0 : Nat) (l0 : List (S54)) (r1 : Int) (r2 : Int) (w : World) (hr0 : Kd.C k54 w A0 l0.length l0) (hc0 : l0.length ≤ c0) (h : spec_l3Type.f k l0 = some (r1, r2)) :
    Calls Try.prog 26 #[.slice A0 l0.length c0] w fun e w' => e = .returned (.tuple #[.int .i64 r1, .int .i64 r2]) ∧ Below w.heap.size w w' := by
  have HR0 := Aside0.mk hr0
  have HC0 := Aside0.mk hc0
  clear hr0 hc0
  have HB := Aside0.mk (Below.refl w.heap.size w)
  have H : ((spec_l3Fault.f k l0).bind fun t177 => (if t177 = 0 then ((spec_l3Types.f k l0).bind fun bt178 => (if bt178.2 = true then (if 0 ≤ (wrap64 ((bt178.1.length : Int) - 1)) then (if (wrap64 ((bt178.1.length : Int) - 1)) < (bt178.1.length : Int) then (some (rd bt178.1 (wrap64 ((bt178.1.length : Int) - 1)), 0)) else (none)) else (none)) else (some (0, 7)))) else (some (0, t177)))) = some (r1, r2) := h
  clear h
  replace H := Option.bind_eq_some_iff.mp H
  obtain ⟨t177, A20, H⟩ := H
  replace H : (if t177 = 0 then ((spec_l3Types.f k l0).bind fun bt178 => (if bt178.2 = true then (if 0 ≤ (wrap64 ((bt178.1.length : Int) - 1)) then (if (wrap64 ((bt178.1.length : Int) - 1)) < (bt178.1.length : Int) then (some (rd bt178.1 (wrap64 ((bt178.1.length : Int) - 1)), 0)) else (none)) else (none)) else (some (0, 7)))) else (some (0, t177))) = some (r1, r2) := H
  have A2 := Aside0.mk A20
  clear A20
  by_cases c3 : t177 = 0
  · rw [if_pos c3] at H
    have c3b0 : (t177 == 0) = true := beq_iff_eq.mpr c3
    have c3b1 : (t177 != 0) = false := bne_eq_false_iff_eq.mpr c3
    clear c3
    replace H := Option.bind_eq_some_iff.mp H
    obtain ⟨⟨t178, t179⟩, A40, H⟩ := H
    replace H : (if t179 = true then (if 0 ≤ (wrap64 ((t178.length : Int) - 1)) then (if (wrap64 ((t178.length : Int) - 1)) < (t178.length : Int) then (some (rd t178 (wrap64 ((t178.length : Int) - 1)), 0)) else (none)) else (none)) else (some (0, 7))) = some (r1, r2) := H
    have A4 := Aside0.mk A40
    clear A40
    by_cases c5 : t179 = true
    · subst c5
      have H1 : (if 0 ≤ (wrap64 ((t178.length : Int) - 1)) then (if (wrap64 ((t178.length : Int) - 1)) < (t178.length : Int) then (some (rd t178 (wrap64 ((t178.length : Int) - 1)), 0)) else (none)) else (none)) = some (r1, r2) := by rw [if_pos rfl] at H; exact H
      clear H
      have H := H1
      clear H1
      obtain ⟨ji6, hji6⟩ : ∃ j_ : Int, (wrap64 ((t178.length : Int) - 1)) = j_ := ⟨_, rfl⟩
      replace H : (if 0 ≤ (ji6) then (if (ji6) < (t178.length : Int) then (some (rd t178 (ji6), 0)) else (none)) else (none)) = some (r1, r2) := by first | (rw [hji6] at H; exact H) | (simp only [hji6] at H ⊢; exact H)
      (try rw [hji6] at A2)
      (try rw [hji6] at A4)
      have hji6w : (IntKind.i64.wrap ((t178.length : Int) - 1)) = ji6 := (i64_w _).trans hji6
      by_cases c7 : 0 ≤ (ji6)
      · rw [if_pos c7] at H
        have c7b0 : decide (0 ≤ (ji6)) = true := decide_eq_true c7
        clear c7
        by_cases c8 : (ji6) < (t178.length : Int)
        · rw [if_pos c8] at H
          have c8b0 : decide ((ji6) < (t178.length : Int)) = true := decide_eq_true c8
          clear c8
          simp only [Option.some.injEq, Prod.mk.injEq] at H
          obtain ⟨rfl, rfl⟩ := H
          go_enter Try.func26, Try.ntmps26
          go_wp2_with (first | ((with_reducible refine gate_callee (f := 33) rfl ?_); refine goesL_ (some 8) rfl rfl Try.func33 (by kernel_rfl) rfl #[.slice A0 l0.length c0] rfl (by (try simp only [List.map_toArray, List.map_cons, List.map_nil]); first | done | rfl | (simp only [List.length_drop, List.length_take]; rfl)) ?_; (with_reducible refine (spec_l3Fault.calls k _ _ l0 t177 _ ?side1 ?side2 A2.out).mono ?_); (case side1 => repeat (first | exact HR0.out | (with_reducible refine Kd.C_alloc ?_ _) | (with_reducible refine Kd.C_drewN ?_ _) | (with_reducible refine Kd.C_drew ?_))); (case side2 => exact HC0.out); rintro e w9 ⟨rfl, hb⟩; refine ⟨_, rfl, ?_⟩; have n0_ := Aside0.mk (below_step (by repeat (first | (with_reducible first | exact HB.out | apply below_alloc | apply pw_below_drewN | apply below_drew1) | exact HB.out)) hb); clear HB; have HB := n0_; clear n0_; (try clear hb); (try clear hb2); (try clear hk); (try clear hi)) | ((with_reducible refine gate_callee (f := 48) rfl ?_); refine goesL_ (some 14) rfl rfl Try.func48 (by kernel_rfl) rfl #[.slice A0 l0.length c0] rfl (by (try simp only [List.map_toArray, List.map_cons, List.map_nil]); first | done | rfl | (simp only [List.length_drop, List.length_take]; rfl)) ?_; (with_reducible refine (spec_l3Types.calls k _ _ l0 t178 true _ ?side1 ?side2 A4.out).mono ?_); (case side1 => repeat (first | exact (Kd.C_below HR0.out HB.out) | (with_reducible refine Kd.C_alloc ?_ _) | (with_reducible refine Kd.C_drewN ?_ _) | (with_reducible refine Kd.C_drew ?_))); (case side2 => exact HC0.out); rintro e w10 ⟨v180, rfl, ho0, hb⟩; refine ⟨_, rfl, ?_⟩; have n0_ := Aside0.mk (Kd.R_lower ho0 (below_size (by repeat (first | (with_reducible first | exact HB.out | apply below_alloc | apply pw_below_drewN | apply below_drew1) | exact HB.out)))); have n1_ := Aside0.mk (below_step (by repeat (first | (with_reducible first | exact HB.out | apply below_alloc | apply pw_below_drewN | apply below_drew1) | exact HB.out)) hb); clear HB; have HO181 := n0_; have HB := n1_; clear n0_ n1_; (try clear hb); (try clear hb2); (try clear hk); (try clear hi); (try clear ho0); obtain ⟨Ao11, co11, eo11⟩ := Kd.R_slice HO181.out; subst eo11; have p182 : 0 ≤ ((ji6) : Int) := of_decide_eq_true (by first | (with_reducible assumption) | assumption); have q182 : (ji6) < (t178.length : Int) := of_decide_eq_true (by first | (with_reducible assumption) | assumption); obtain ⟨ad182, e182, hx182_0⟩ := Kd.at_int (Kd.R_reads' HO181.out).2.2 (ji6) p182 q182; cases e182; replace p182 := eq_true p182; replace q182 := eq_true q182))
          go_ret2
          exact ⟨by first | rfl | (simp [errW_none, errW_some] <;> rfl) | (simp only [← hji6]; first | rfl | (simp [errW_none, errW_some] <;> rfl)) | (simp [*, errW_none, errW_some] <;> rfl), by repeat (first | (with_reducible first | exact HB.out | apply below_alloc | apply pw_below_drewN | apply below_drew1) | exact HB.out)⟩
        · rw [if_neg c8] at H
          exact absurd H (by simp)
      · rw [if_neg c7] at H
        exact absurd H (by simp)
    · replace c5 := Bool.eq_false_iff.mpr c5
      subst c5
      have H1 : (some (0, 7)) = some (r1, r2) := by rw [if_neg (show ¬ (false = true) by decide)] at H; exact H
      clear H
      have H := H1
      clear H1
      simp only [Option.some.injEq, Prod.mk.injEq] at H
      obtain ⟨rfl, rfl⟩ := H
      go_enter Try.func26, Try.ntmps26
      go_wp2_with (first | ((with_reducible refine gate_callee (f := 33) rfl ?_); refine goesL_ (some 8) rfl rfl Try.func33 (by kernel_rfl) rfl #[.slice A0 l0.length c0] rfl (by (try simp only [List.map_toArray, List.map_cons, List.map_nil]); first | done | rfl | (simp only [List.length_drop, List.length_take]; rfl)) ?_; (with_reducible refine (spec_l3Fault.calls k _ _ l0 t177 _ ?side1 ?side2 A2.out).mono ?_); (case side1 => repeat (first | exact HR0.out | (with_reducible refine Kd.C_alloc ?_ _) | (with_reducible refine Kd.C_drewN ?_ _) | (with_reducible refine Kd.C_drew ?_))); (case side2 => exact HC0.out); rintro e w12 ⟨rfl, hb⟩; refine ⟨_, rfl, ?_⟩; have n0_ := Aside0.mk (below_step (by repeat (first | (with_reducible first | exact HB.out | apply below_alloc | apply pw_below_drewN | apply below_drew1) | exact HB.out)) hb); clear HB; have HB := n0_; clear n0_; (try clear hb); (try clear hb2); (try clear hk); (try clear hi)) | ((with_reducible refine gate_callee (f := 48) rfl ?_); refine goesL_ (some 14) rfl rfl Try.func48 (by kernel_rfl) rfl #[.slice A0 l0.length c0] rfl (by (try simp only [List.map_toArray, List.map_cons, List.map_nil]); first | done | rfl | (simp only [List.length_drop, List.length_take]; rfl)) ?_; (with_reducible refine (spec_l3Types.calls k _ _ l0 t178 false _ ?side1 ?side2 A4.out).mono ?_); (case side1 => repeat (first | exact (Kd.C_below HR0.out HB.out) | (with_reducible refine Kd.C_alloc ?_ _) | (with_reducible refine Kd.C_drewN ?_ _) | (with_reducible refine Kd.C_drew ?_))); (case side2 => exact HC0.out); rintro e w13 ⟨v180, rfl, ho0, hb⟩; refine ⟨_, rfl, ?_⟩; have n0_ := Aside0.mk (Kd.R_lower ho0 (below_size (by repeat (first | (with_reducible first | exact HB.out | apply below_alloc | apply pw_below_drewN | apply below_drew1) | exact HB.out)))); have n1_ := Aside0.mk (below_step (by repeat (first | (with_reducible first | exact HB.out | apply below_alloc | apply pw_below_drewN | apply below_drew1) | exact HB.out)) hb); clear HB; have HO181 := n0_; have HB := n1_; clear n0_ n1_; (try clear hb); (try clear hb2); (try clear hk); (try clear hi); (try clear ho0)))
      go_ret2
      exact ⟨by first | rfl | (simp [errW_none, errW_some] <;> rfl) | (simp [*, errW_none, errW_some] <;> rfl), by repeat (first | (with_reducible first | exact HB.out | apply below_alloc | apply pw_below_drewN | apply below_drew1) | exact HB.out)⟩
  · rw [if_neg c3] at H
    have c3b0 : (t177 == 0) = false := beq_eq_false_iff_ne.mpr c3
    have c3b1 : (t177 != 0) = true := bne_iff_ne.mpr c3
    simp only [Option.some.injEq, Prod.mk.injEq] at H
    obtain ⟨rfl, rfl⟩ := H
    go_enter Try.func26, Try.ntmps26
    go_wp2_with (first | ((with_reducible refine gate_callee (f := 33) rfl ?_); refine goesL_ (some 8) rfl rfl Try.func33 (by kernel_rfl) rfl #[.slice A0 l0.length c0] rfl (by (try simp only [List.map_toArray, List.map_cons, List.map_nil]); first | done | rfl | (simp only [List.length_drop, List.length_take]; rfl)) ?_; (with_reducible refine (spec_l3Fault.calls k _ _ l0 t177 _ ?side1 ?side2 A2.out).mono ?_); (case side1 => repeat (first | exact HR0.out | (with_reducible refine Kd.C_alloc ?_ _) | (with_reducible refine Kd.C_drewN ?_ _) | (with_reducible refine Kd.C_drew ?_))); (case side2 => exact HC0.out); rintro e w14 ⟨rfl, hb⟩; refine ⟨_, rfl, ?_⟩; have n0_ := Aside0.mk (below_step (by repeat (first | (with_reducible first | exact HB.out | apply below_alloc | apply pw_below_drewN | apply below_drew1) | exact HB.out)) hb); clear HB; have HB := n0_; clear n0_; (try clear hb); (try clear hb2); (try clear hk); (try clear hi)))
    go_ret2
    exact ⟨by first | rfl | (simp [errW_none, errW_some] <;> rfl) | (simp [*, errW_none, errW_some] <;> rfl), by repeat (first | (with_reducible first | exact HB.out | apply below_alloc | apply pw_below_drewN | apply below_drew1) | exact HB.out)⟩

/-! ### spec_VarsFault: function 27 -/
def spec_VarsFault.l0 : Nat → List Int → Int → Option (Int)
  | 0, _, _ => none
  | k + 1, x0, x3 => if x3 < (x0.length : Int) then (if 0 ≤ x3 then ((spec_l1In.f (rd x0 x3) (-1000000) 1000000).bind fun t184 => (if t184 = true then (spec_VarsFault.l0 k x0 (wrap64 (x3 + 1))) else (some 3))) else (none)) else (some 0)
def spec_VarsFault.f (k : Nat) (l0 : List Int) : Option (Int) := if (l0.length : Int) = 4 then (spec_VarsFault.l0 k l0 0) else (some 2)
theorem spec_VarsFault.mono_l : ∀ k, (∀ y0 y1, LeO (spec_VarsFault.l0 k y0 y1) (spec_VarsFault.l0 (k + 1) y0 y1))
  | 0 => fun _ _ r h => by simp [spec_VarsFault.l0] at h
  | k + 1 => by
    have ih0 := spec_VarsFault.mono_l k
    · intro y0 y1
      unfold spec_VarsFault.l0
      repeat' first
      | (with_reducible exact ih0 _ _)
      | (with_reducible exact LeO.refl _)
      | (with_reducible exact LeO.none _)
      | (with_reducible refine LeO.ite ?_ ?_)
      | (with_reducible refine LeO.bind ?_ (fun _ => ?_))
      | exact ih0 _ _
      | exact LeO.none _
      | refine LeO.ite ?_ ?_
      | refine LeO.bind ?_ (fun _ => ?_)
theorem spec_VarsFault.mono : ∀ a0 k, LeO (spec_VarsFault.f k a0) (spec_VarsFault.f (k + 1) a0) := by
  intro a0 k
  have ih0 := spec_VarsFault.mono_l k
  unfold spec_VarsFault.f
  repeat' first
      | (with_reducible exact ih0 _ _)
      | (with_reducible exact LeO.refl _)
      | (with_reducible exact LeO.none _)
      | (with_reducible refine LeO.ite ?_ ?_)
      | (with_reducible refine LeO.bind ?_ (fun _ => ?_))
      | exact ih0 _ _
      | exact LeO.none _
      | refine LeO.ite ?_ ?_
      | refine LeO.bind ?_ (fun _ => ?_)
set_option maxHeartbeats 8000000 in
set_option maxRecDepth 100000 in
theorem spec_VarsFault.calls (k : Nat) (A0 : Option Addr) (c0 : Nat) (l0 : List Int) (r : Int) (w : World) (hr0 : Kd.C (Kd.int .i64) w A0 l0.length l0) (hc0 : l0.length ≤ c0) (h : spec_VarsFault.f k l0 = some r) :
    Calls Try.prog 27 #[.slice A0 l0.length c0] w fun e w' => e = .returned (.int .i64 r) ∧ Drawn0 w w' := by
  have HR0 := Aside0.mk hr0
  have HC0 := Aside0.mk hc0
  clear hr0 hc0
  have H : (if (l0.length : Int) = 4 then (spec_VarsFault.l0 k l0 0) else (some 2)) = some r := h
  clear h
  by_cases c2 : (l0.length : Int) = 4
  · rw [if_pos c2] at H
    have c2b0 : ((l0.length : Int) == 4) = true := beq_iff_eq.mpr c2
    have c2b1 : ((l0.length : Int) != 4) = false := bne_eq_false_iff_eq.mpr c2
    clear c2
    have H' := Aside0.mk H
    clear H
    go_enter Try.func27, Try.ntmps27
    go_wp2
    go_loopg [3] k (fun kq v3 w' => ∃ (x3_1 : Int), v3 = .int .i64 x3_1 ∧ Aside0 (spec_VarsFault.l0 kq l0 x3_1 = some r) ∧ Aside0 (kq ≤ k) ∧ Drawn0 w w')
    case atStart => exact ⟨(0), (by first | rfl | (simp; done) | (simp [*]; done)), H', ⟨Nat.le_refl _⟩, by repeat (first | exact Drawn0.refl _ | apply Drawn0.step)⟩
    case round =>
      clear H'
      try clear c2
      try clear c2b0
      try clear c2b1
      try clear p2
      obtain ⟨x3_1, rfl, HA, HK1, ⟨m1, rfl⟩⟩ := hrel
      cases gk with
      | zero => exact absurd HA.out (by simp [spec_VarsFault.l0])
      | succ k1 =>
        have H := HA.out
        clear HA
        simp only [spec_VarsFault.l0] at H
        by_cases c3 : x3_1 < (l0.length : Int)
        · rw [if_pos c3] at H
          have c3b0 : decide (x3_1 < (l0.length : Int)) = true := decide_eq_true c3
          clear c3
          by_cases c4 : 0 ≤ x3_1
          · rw [if_pos c4] at H
            have c4b0 : decide (0 ≤ x3_1) = true := decide_eq_true c4
            clear c4
            replace H := Option.bind_eq_some_iff.mp H
            obtain ⟨t184, A50, H⟩ := H
            replace H : (if t184 = true then (spec_VarsFault.l0 k1 l0 (wrap64 (x3_1 + 1))) else (some 3)) = some r := H
            have A5 := Aside0.mk A50
            clear A50
            by_cases c6 : t184 = true
            · subst c6
              have H1 : (spec_VarsFault.l0 k1 l0 (wrap64 (x3_1 + 1))) = some r := by rw [if_pos rfl] at H; exact H
              clear H
              have H := H1
              clear H1
              have H' := Aside0.mk H
              clear H
              have p183 : 0 ≤ (x3_1 : Int) := of_decide_eq_true (by first | (with_reducible assumption) | assumption)
              have q183 : x3_1 < (l0.length : Int) := of_decide_eq_true (by first | (with_reducible assumption) | assumption)
              obtain ⟨ad183, e183, hx183_0⟩ := Kd.at_int HR0.out x3_1 p183 q183
              cases e183
              replace p183 := eq_true p183
              replace q183 := eq_true q183
              go_wp2_with (first | ((with_reducible refine gate_callee (f := 49) rfl ?_); refine goesL_ (some 17) rfl rfl Try.func49 (by kernel_rfl) rfl #[.int .i64 (rd l0 x3_1), .int .i64 (-1000000), .int .i64 1000000] rfl (by (try simp only [List.map_toArray, List.map_cons, List.map_nil]); first | done | rfl | (simp only [List.length_drop, List.length_take]; rfl)) ?_; (with_reducible refine (spec_l1In.calls (rd l0 x3_1) (-1000000) 1000000 true _ A5.out).mono ?_); rintro e w' ⟨rfl, ⟨nd, rfl⟩⟩; refine ⟨_, rfl, ?_⟩))
              go_roundg k1
              case measure => have := HK1.out; omega
              case rel => exact ⟨(wrap64 (x3_1 + 1)), (by first | rfl | (simp; done) | (simp [*]; done)), H', ⟨by have := HK1.out; omega⟩, by repeat (first | exact Drawn0.refl _ | apply Drawn0.step)⟩
            · replace c6 := Bool.eq_false_iff.mpr c6
              subst c6
              have H1 : (some 3) = some r := by rw [if_neg (show ¬ (false = true) by decide)] at H; exact H
              clear H
              have H := H1
              clear H1
              obtain rfl := Option.some.inj H
              have p183 : 0 ≤ (x3_1 : Int) := of_decide_eq_true (by first | (with_reducible assumption) | assumption)
              have q183 : x3_1 < (l0.length : Int) := of_decide_eq_true (by first | (with_reducible assumption) | assumption)
              obtain ⟨ad183, e183, hx183_0⟩ := Kd.at_int HR0.out x3_1 p183 q183
              cases e183
              replace p183 := eq_true p183
              replace q183 := eq_true q183
              go_wp2_with (first | ((with_reducible refine gate_callee (f := 49) rfl ?_); refine goesL_ (some 17) rfl rfl Try.func49 (by kernel_rfl) rfl #[.int .i64 (rd l0 x3_1), .int .i64 (-1000000), .int .i64 1000000] rfl (by (try simp only [List.map_toArray, List.map_cons, List.map_nil]); first | done | rfl | (simp only [List.length_drop, List.length_take]; rfl)) ?_; (with_reducible refine (spec_l1In.calls (rd l0 x3_1) (-1000000) 1000000 false _ A5.out).mono ?_); rintro e w' ⟨rfl, ⟨nd, rfl⟩⟩; refine ⟨_, rfl, ?_⟩))
              go_ret
              exact ⟨by first | rfl | (simp; done) | (simp [*]; done), by repeat (first | exact Drawn0.refl _ | apply Drawn0.step)⟩
          · rw [if_neg c4] at H
            exact absurd H (by simp)
        · rw [if_neg c3] at H
          have c3b0 : decide (x3_1 < (l0.length : Int)) = false := decide_eq_false c3
          clear c3
          obtain rfl := Option.some.inj H
          go_wp2
          go_ret
          exact ⟨by first | rfl | (simp; done) | (simp [*]; done), by repeat (first | exact Drawn0.refl _ | apply Drawn0.step)⟩
  · rw [if_neg c2] at H
    have c2b0 : ((l0.length : Int) == 4) = false := beq_eq_false_iff_ne.mpr c2
    have c2b1 : ((l0.length : Int) != 4) = true := bne_iff_ne.mpr c2
    obtain rfl := Option.some.inj H
    go_enter Try.func27, Try.ntmps27
    go_wp2
    go_ret
    exact ⟨by first | rfl | (simp; done) | (simp [*]; done), by repeat (first | exact Drawn0.refl _ | apply Drawn0.step)⟩

/-! ### spec_l3Bool: function 63 -/
def spec_l3Bool.f (a0 : Bool) : Option (Int) := if a0 = true then (some 1) else (some 0)
set_option maxHeartbeats 8000000 in
set_option maxRecDepth 100000 in
theorem spec_l3Bool.calls (a0 : Bool) (r : Int) (w : World) (h : spec_l3Bool.f a0 = some r) :
    Calls Try.prog 63 #[.bool a0] w fun e w' => e = .returned (.int .i64 r) ∧ Drawn0 w w' := by
  have H : (if a0 = true then (some 1) else (some 0)) = some r := h
  clear h
  by_cases c2 : a0 = true
  · subst c2
    have H1 : (some 1) = some r := by rw [if_pos rfl] at H; exact H
    clear H
    have H := H1
    clear H1
    obtain rfl := Option.some.inj H
    go_enter Try.func63, Try.ntmps63
    go_wp2
    go_ret
    exact ⟨by first | rfl | (simp; done) | (simp [*]; done), by repeat (first | exact Drawn0.refl _ | apply Drawn0.step)⟩
  · replace c2 := Bool.eq_false_iff.mpr c2
    subst c2
    have H1 : (some 0) = some r := by rw [if_neg (show ¬ (false = true) by decide)] at H; exact H
    clear H
    have H := H1
    clear H1
    obtain rfl := Option.some.inj H
    go_enter Try.func63, Try.ntmps63
    go_wp2
    go_ret
    exact ⟨by first | rfl | (simp; done) | (simp [*]; done), by repeat (first | exact Drawn0.refl _ | apply Drawn0.step)⟩

end Go.Proofs.Ytfgidohkkbmfjaa.Q
