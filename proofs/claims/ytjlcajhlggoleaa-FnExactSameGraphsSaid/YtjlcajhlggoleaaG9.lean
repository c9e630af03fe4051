-- Written by a program of this session's own (xp.py) for this seat.
import Derived.Test.YtjlcajhlggoleaaG0
import Derived.Test.YtjlcajhlggoleaaG2
import Derived.Test.YtjlcajhlggoleaaG3
import Derived.Test.YtjlcajhlggoleaaG4
import Derived.Test.YtjlcajhlggoleaaG6
import Derived.Test.YtjlcajhlggoleaaG8
namespace Go.Proofs.Ytjlcajhlggoleaa.G
open Go.RowKit Go.Proofs.YtjlcajhlggoleaaW.PrintWords Go.Proofs.YtjlcajhlggoleaaW.PrintLast Go.Proofs.YtjlcajhlggoleaaW.PrintMore
attribute [local go_sem] Instr.field asAgg
attribute [local go_sem] max2_int min2_int max_two min_two max_three min_three max_four min_four   -- for this text's walks alone
set_option linter.unusedVariables false
set_option linter.unusedSimpArgs false

/-! ### laws_FnExactSameGraphs: function 11 -/
def laws_FnExactSameGraphs.f (k : Nat) (l0_0 : List (S142)) (l0_1 : List (S145)) (l1_0 : List (S142)) (l1_1 : List (S145)) : Option (Bool) := (laws_szGraph.f k l0_0 l0_1 1048576).bind fun t227 => (if t227 < 0 then (some true) else ((laws_szGraph.f k l1_0 l1_1 t227).bind fun t228 => (if t228 < 0 then (some true) else ((laws_toGraph.f k l0_0 l0_1).bind fun bt229 => ((laws_toGraph.f k l1_0 l1_1).bind fun bt235 => ((spec_SameGraphs.f k bt229.1 bt229.2 bt235.1 bt235.2).bind fun t241 => ((laws_toGraph.f k l0_0 l0_1).bind fun bt242 => ((laws_toGraph.f k l1_0 l1_1).bind fun bt249 => ((impl_SameGraphs.f k bt242.1 bt242.2 bt249.1 bt249.2).bind fun t256 => (if (t256 != t241) = true then (some false) else ((laws_toGraph.f k l0_0 l0_1).bind fun bt257 => ((laws_eqGraph.f k bt242.1 bt242.2 bt257.1 bt257.2).bind fun t263 => (if t263 = true then ((laws_toGraph.f k l1_0 l1_1).bind fun bt264 => ((laws_eqGraph.f k bt249.1 bt249.2 bt264.1 bt264.2).bind fun t270 => (if t270 = true then (some true) else (some false)))) else (some false))))))))))))))
theorem laws_FnExactSameGraphs.mono : ∀ a0 a1 a2 a3 k, LeO (laws_FnExactSameGraphs.f k a0 a1 a2 a3) (laws_FnExactSameGraphs.f (k + 1) a0 a1 a2 a3) := by
  intro a0 a1 a2 a3 k
  unfold laws_FnExactSameGraphs.f
  repeat' first
      | (with_reducible exact impl_SameGraphs.mono _ _ _ _ _)
      | (with_reducible exact laws_eqGraph.mono _ _ _ _ _)
      | (with_reducible exact laws_szGraph.mono _ _ _ _)
      | (with_reducible exact laws_toGraph.mono _ _ _)
      | (with_reducible exact spec_SameGraphs.mono _ _ _ _ _)
      | (with_reducible exact LeO.refl _)
      | (with_reducible exact LeO.none _)
      | (with_reducible refine LeO.ite ?_ ?_)
      | (with_reducible refine LeO.bind ?_ (fun _ => ?_))
      | exact impl_SameGraphs.mono _ _ _ _ _
      | exact laws_eqGraph.mono _ _ _ _ _
      | exact laws_szGraph.mono _ _ _ _
      | exact laws_toGraph.mono _ _ _
      | exact spec_SameGraphs.mono _ _ _ _ _
      | exact LeO.none _
      | refine LeO.ite ?_ ?_
      | refine LeO.bind ?_ (fun _ => ?_)
set_option maxHeartbeats 8000000 in
set_option maxRecDepth 100000 in
theorem laws_FnExactSameGraphs.calls (k : Nat) (A0_0 : Option Addr) (c0_0 : Nat) (l0_0 : List (S142)) (A0_1 : Option Addr) (c0_1 : Nat) (l0_1 : List (S145)) (A1_0 : Option Addr) (c1_0 : Nat) (l1_0 : List (S142)) (A1_1 : Option Addr) (c1_1 : Nat) (l1_1 : List (S145)) (r : Bool) (w : World) (hr0_0 : Kd.C k142 w A0_0 l0_0.length l0_0) (hc0_0 : l0_0.length ≤ c0_0) (hr0_1 : Kd.C k145 w A0_1 l0_1.length l0_1) (hc0_1 : l0_1.length ≤ c0_1) (hr1_0 : Kd.C k142 w A1_0 l1_0.length l1_0) (hc1_0 : l1_0.length ≤ c1_0) (hr1_1 : Kd.C k145 w A1_1 l1_1.length l1_1) (hc1_1 : l1_1.length ≤ c1_1) (h : laws_FnExactSameGraphs.f k l0_0 l0_1 l1_0 l1_1 = some r) :
    Calls Try.prog 11 #[.agg #[.slice A0_0 l0_0.length c0_0, .slice A0_1 l0_1.length c0_1], .agg #[.slice A1_0 l1_0.length c1_0, .slice A1_1 l1_1.length c1_1]] w fun e w' => e = .returned (.bool r) ∧ Below w.heap.size w w' := by
  have hu56 := Try.underlying56
  have hu62 := Try.underlying62
  have HR0_0 := Aside0.mk hr0_0
  have HC0_0 := Aside0.mk hc0_0
  clear hr0_0 hc0_0
  have HR0_1 := Aside0.mk hr0_1
  have HC0_1 := Aside0.mk hc0_1
  clear hr0_1 hc0_1
  have HR1_0 := Aside0.mk hr1_0
  have HC1_0 := Aside0.mk hc1_0
  clear hr1_0 hc1_0
  have HR1_1 := Aside0.mk hr1_1
  have HC1_1 := Aside0.mk hc1_1
  clear hr1_1 hc1_1
  have HB := Aside0.mk (Below.refl w.heap.size w)
  have H : ((laws_szGraph.f k l0_0 l0_1 1048576).bind fun t227 => (if t227 < 0 then (some true) else ((laws_szGraph.f k l1_0 l1_1 t227).bind fun t228 => (if t228 < 0 then (some true) else ((laws_toGraph.f k l0_0 l0_1).bind fun bt229 => ((laws_toGraph.f k l1_0 l1_1).bind fun bt235 => ((spec_SameGraphs.f k bt229.1 bt229.2 bt235.1 bt235.2).bind fun t241 => ((laws_toGraph.f k l0_0 l0_1).bind fun bt242 => ((laws_toGraph.f k l1_0 l1_1).bind fun bt249 => ((impl_SameGraphs.f k bt242.1 bt242.2 bt249.1 bt249.2).bind fun t256 => (if (t256 != t241) = true then (some false) else ((laws_toGraph.f k l0_0 l0_1).bind fun bt257 => ((laws_eqGraph.f k bt242.1 bt242.2 bt257.1 bt257.2).bind fun t263 => (if t263 = true then ((laws_toGraph.f k l1_0 l1_1).bind fun bt264 => ((laws_eqGraph.f k bt249.1 bt249.2 bt264.1 bt264.2).bind fun t270 => (if t270 = true then (some true) else (some false)))) else (some false))))))))))))))) = some r := h
  clear h
  replace H := Option.bind_eq_some_iff.mp H
  obtain ⟨t227, A30, H⟩ := H
  replace H : (if t227 < 0 then (some true) else ((laws_szGraph.f k l1_0 l1_1 t227).bind fun t228 => (if t228 < 0 then (some true) else ((laws_toGraph.f k l0_0 l0_1).bind fun bt229 => ((laws_toGraph.f k l1_0 l1_1).bind fun bt235 => ((spec_SameGraphs.f k bt229.1 bt229.2 bt235.1 bt235.2).bind fun t241 => ((laws_toGraph.f k l0_0 l0_1).bind fun bt242 => ((laws_toGraph.f k l1_0 l1_1).bind fun bt249 => ((impl_SameGraphs.f k bt242.1 bt242.2 bt249.1 bt249.2).bind fun t256 => (if (t256 != t241) = true then (some false) else ((laws_toGraph.f k l0_0 l0_1).bind fun bt257 => ((laws_eqGraph.f k bt242.1 bt242.2 bt257.1 bt257.2).bind fun t263 => (if t263 = true then ((laws_toGraph.f k l1_0 l1_1).bind fun bt264 => ((laws_eqGraph.f k bt249.1 bt249.2 bt264.1 bt264.2).bind fun t270 => (if t270 = true then (some true) else (some false)))) else (some false)))))))))))))) = some r := H
  have A3 := Aside0.mk A30
  clear A30
  by_cases c4 : t227 < 0
  · rw [if_pos c4] at H
    have c4b0 : decide (t227 < 0) = true := decide_eq_true c4
    clear c4
    obtain rfl := Option.some.inj H
    go_enter Try.func11, Try.ntmps11
    go_wp2_with (first | ((with_reducible refine gate_dst (N := 2) rfl ?_); refine box_event ?hg (N := 2) ?hd (cs := #[.slice A0_0 l0_0.length c0_0, .slice A0_1 l0_1.length c0_1]) (t := 56) ?hr ?_; (case hd => rfl); (case hg => rfl); (case hr => first | (go_simp; done) | (go_simp; rfl)); intro gb225 hg w5 hbox hb; have n0_ := Aside0.mk (below_step (by repeat (first | (with_reducible first | exact HB.out | apply below_alloc | apply pw_below_drewN | apply below_drew1) | exact HB.out)) hb); have n1_ := Aside0.mk (hbox); have n2_ := Aside0.mk ((by rw [hg]; exact (below_size (by repeat (first | (with_reducible first | exact HB.out | apply below_alloc | apply pw_below_drewN | apply below_drew1) | exact HB.out))) : w.heap.size ≤ gb225)); have n3_ := Aside0.mk ((by rw [hg]; exact (below_size (by repeat (first | (with_reducible first | exact HB.out | apply below_alloc | apply pw_below_drewN | apply below_drew1) | exact HB.out))) : w.heap.size ≤ gb225)); clear HB; have HB := n0_; have BK225 := n1_; have GW225 := n2_; have GE225 := n3_; clear n0_ n1_ n2_ n3_; clear hb hbox hg) | ((with_reducible refine gate_dst (N := 3) rfl ?_); refine box_event ?hg (N := 3) ?hd (cs := #[.slice A1_0 l1_0.length c1_0, .slice A1_1 l1_1.length c1_1]) (t := 56) ?hr ?_; (case hd => rfl); (case hg => rfl); (case hr => first | (go_simp; done) | (go_simp; rfl)); intro gb226 hg w6 hbox hb; have n0_ := Aside0.mk (blk_below (g := gb225) (o := .cells #[.slice A0_0 l0_0.length c0_0, .slice A0_1 l0_1.length c0_1] 56 (0, 0)) (by (with_reducible repeat (first | refine blk_drewN ?_ _ | refine blk_drew ?_ | refine blk_alloc ?_ _)); exact BK225.out) hb); have n1_ := Aside0.mk (below_step (by repeat (first | (with_reducible first | exact HB.out | apply below_alloc | apply pw_below_drewN | apply below_drew1 | refine below_set ?_ GE225.out) | exact HB.out)) hb); have n2_ := Aside0.mk (hbox); have n3_ := Aside0.mk ((by rw [hg]; exact (below_size (by repeat (first | (with_reducible first | exact HB.out | apply below_alloc | apply pw_below_drewN | apply below_drew1 | refine below_set ?_ GE225.out) | exact HB.out))) : w.heap.size ≤ gb226)); have n4_ := Aside0.mk ((by rw [hg]; exact (below_size (by repeat (first | (with_reducible first | exact HB.out | apply below_alloc | apply pw_below_drewN | apply below_drew1 | refine below_set ?_ GE225.out) | exact HB.out))) : w.heap.size ≤ gb226)); have n5_ := Aside0.mk ((by rw [hg]; exact Nat.ne_of_lt (blk_lt (g := gb225) (o := .cells #[.slice A0_0 l0_0.length c0_0, .slice A0_1 l0_1.length c0_1] 56 (0, 0)) (by (with_reducible repeat (first | refine blk_drewN ?_ _ | refine blk_drew ?_ | refine blk_alloc ?_ _)); exact BK225.out)) : gb225 ≠ gb226)); have n6_ := Aside0.mk ((by rw [hg]; exact Nat.ne_of_gt (blk_lt (g := gb225) (o := .cells #[.slice A0_0 l0_0.length c0_0, .slice A0_1 l0_1.length c0_1] 56 (0, 0)) (by (with_reducible repeat (first | refine blk_drewN ?_ _ | refine blk_drew ?_ | refine blk_alloc ?_ _)); exact BK225.out)) : gb226 ≠ gb225)); clear BK225; clear HB; have BK225 := n0_; have HB := n1_; have BK226 := n2_; have GW226 := n3_; have GE226 := n4_; have NB225_226 := n5_; have NB226_225 := n6_; clear n0_ n1_ n2_ n3_ n4_ n5_ n6_; clear hb hbox hg; have hnb7 := NB225_226.out; have hnc7 := NB226_225.out; have hcz8_0 : w6.cell? ⟨gb225, 0, none⟩ = some (.slice A0_0 l0_0.length c0_0) := (blk_cell BK225.out 0).trans rfl; have hcz8_1 : w6.cell? ⟨gb225, 1, none⟩ = some (.slice A0_1 l0_1.length c0_1) := (blk_cell BK225.out 1).trans rfl; have hfz8_0 := blk_frozen BK225.out 0; have hfz8_1 := blk_frozen BK225.out 1) | ((with_reducible refine gate_callee (f := 40) rfl ?_); refine goesL_ (some 12) rfl rfl Try.func40 (by kernel_rfl) rfl #[.agg #[.slice A0_0 l0_0.length c0_0, .slice A0_1 l0_1.length c0_1], .int .i64 1048576] rfl (by (try simp only [List.map_toArray, List.map_cons, List.map_nil]); first | done | rfl | (simp only [List.length_drop, List.length_take]; rfl)) ?_; (with_reducible refine (laws_szGraph.calls k _ _ l0_0 _ _ l0_1 1048576 t227 _ ?side1 ?side2 ?side3 ?side4 A3.out).mono ?_); (case side1 => repeat (first | exact (Kd.C_below HR0_0.out HB.out) | (with_reducible refine Kd.C_alloc ?_ _) | (with_reducible refine Kd.C_drewN ?_ _) | (with_reducible refine Kd.C_drew ?_))); (case side2 => exact HC0_0.out); (case side3 => repeat (first | exact (Kd.C_below HR0_1.out HB.out) | (with_reducible refine Kd.C_alloc ?_ _) | (with_reducible refine Kd.C_drewN ?_ _) | (with_reducible refine Kd.C_drew ?_))); (case side4 => exact HC0_1.out); rintro e w9 ⟨rfl, hb⟩; refine ⟨_, rfl, ?_⟩; have n0_ := Aside0.mk (blk_below (g := gb225) (o := .cells #[.slice A0_0 l0_0.length c0_0, .slice A0_1 l0_1.length c0_1] 56 (0, 0)) (by (with_reducible repeat (first | refine blk_drewN ?_ _ | refine blk_drew ?_ | refine blk_alloc ?_ _)); exact BK225.out) hb); have n1_ := Aside0.mk (blk_below (g := gb226) (o := .cells #[.slice A1_0 l1_0.length c1_0, .slice A1_1 l1_1.length c1_1] 56 (0, 0)) (by (with_reducible repeat (first | refine blk_drewN ?_ _ | refine blk_drew ?_ | refine blk_alloc ?_ _)); exact BK226.out) hb); have n2_ := Aside0.mk (below_step (by repeat (first | (with_reducible first | exact HB.out | apply below_alloc | apply pw_below_drewN | apply below_drew1 | refine below_set ?_ GE225.out | refine below_set ?_ GE226.out) | exact HB.out)) hb); clear BK225; clear BK226; clear HB; have BK225 := n0_; have BK226 := n1_; have HB := n2_; clear n0_ n1_ n2_; (try clear hb); (try clear hb2); (try clear hk); (try clear hi)))
    go_ret
    exact ⟨by first | rfl | (simp [errW_none, errW_some] <;> rfl) | (simp [*, errW_none, errW_some] <;> rfl), by repeat (first | (with_reducible first | exact HB.out | apply below_alloc | apply pw_below_drewN | apply below_drew1 | refine below_set ?_ GE225.out | refine below_set ?_ GE226.out) | exact HB.out)⟩
  rw [if_neg c4] at H
  have c4b0 : decide (t227 < 0) = false := decide_eq_false c4
  clear c4
  replace H := Option.bind_eq_some_iff.mp H
  obtain ⟨t228, A100, H⟩ := H
  replace H : (if t228 < 0 then (some true) else ((laws_toGraph.f k l0_0 l0_1).bind fun bt229 => ((laws_toGraph.f k l1_0 l1_1).bind fun bt235 => ((spec_SameGraphs.f k bt229.1 bt229.2 bt235.1 bt235.2).bind fun t241 => ((laws_toGraph.f k l0_0 l0_1).bind fun bt242 => ((laws_toGraph.f k l1_0 l1_1).bind fun bt249 => ((impl_SameGraphs.f k bt242.1 bt242.2 bt249.1 bt249.2).bind fun t256 => (if (t256 != t241) = true then (some false) else ((laws_toGraph.f k l0_0 l0_1).bind fun bt257 => ((laws_eqGraph.f k bt242.1 bt242.2 bt257.1 bt257.2).bind fun t263 => (if t263 = true then ((laws_toGraph.f k l1_0 l1_1).bind fun bt264 => ((laws_eqGraph.f k bt249.1 bt249.2 bt264.1 bt264.2).bind fun t270 => (if t270 = true then (some true) else (some false)))) else (some false)))))))))))) = some r := H
  have A10 := Aside0.mk A100
  clear A100
  by_cases c11 : t228 < 0
  · rw [if_pos c11] at H
    have c11b0 : decide (t228 < 0) = true := decide_eq_true c11
    clear c11
    obtain rfl := Option.some.inj H
    go_enter Try.func11, Try.ntmps11
    go_wp2_with (first | ((with_reducible refine gate_dst (N := 2) rfl ?_); refine box_event ?hg (N := 2) ?hd (cs := #[.slice A0_0 l0_0.length c0_0, .slice A0_1 l0_1.length c0_1]) (t := 56) ?hr ?_; (case hd => rfl); (case hg => rfl); (case hr => first | (go_simp; done) | (go_simp; rfl)); intro gb225 hg w12 hbox hb; have n0_ := Aside0.mk (below_step (by repeat (first | (with_reducible first | exact HB.out | apply below_alloc | apply pw_below_drewN | apply below_drew1) | exact HB.out)) hb); have n1_ := Aside0.mk (hbox); have n2_ := Aside0.mk ((by rw [hg]; exact (below_size (by repeat (first | (with_reducible first | exact HB.out | apply below_alloc | apply pw_below_drewN | apply below_drew1) | exact HB.out))) : w.heap.size ≤ gb225)); have n3_ := Aside0.mk ((by rw [hg]; exact (below_size (by repeat (first | (with_reducible first | exact HB.out | apply below_alloc | apply pw_below_drewN | apply below_drew1) | exact HB.out))) : w.heap.size ≤ gb225)); clear HB; have HB := n0_; have BK225 := n1_; have GW225 := n2_; have GE225 := n3_; clear n0_ n1_ n2_ n3_; clear hb hbox hg) | ((with_reducible refine gate_dst (N := 3) rfl ?_); refine box_event ?hg (N := 3) ?hd (cs := #[.slice A1_0 l1_0.length c1_0, .slice A1_1 l1_1.length c1_1]) (t := 56) ?hr ?_; (case hd => rfl); (case hg => rfl); (case hr => first | (go_simp; done) | (go_simp; rfl)); intro gb226 hg w13 hbox hb; have n0_ := Aside0.mk (blk_below (g := gb225) (o := .cells #[.slice A0_0 l0_0.length c0_0, .slice A0_1 l0_1.length c0_1] 56 (0, 0)) (by (with_reducible repeat (first | refine blk_drewN ?_ _ | refine blk_drew ?_ | refine blk_alloc ?_ _)); exact BK225.out) hb); have n1_ := Aside0.mk (below_step (by repeat (first | (with_reducible first | exact HB.out | apply below_alloc | apply pw_below_drewN | apply below_drew1 | refine below_set ?_ GE225.out) | exact HB.out)) hb); have n2_ := Aside0.mk (hbox); have n3_ := Aside0.mk ((by rw [hg]; exact (below_size (by repeat (first | (with_reducible first | exact HB.out | apply below_alloc | apply pw_below_drewN | apply below_drew1 | refine below_set ?_ GE225.out) | exact HB.out))) : w.heap.size ≤ gb226)); have n4_ := Aside0.mk ((by rw [hg]; exact (below_size (by repeat (first | (with_reducible first | exact HB.out | apply below_alloc | apply pw_below_drewN | apply below_drew1 | refine below_set ?_ GE225.out) | exact HB.out))) : w.heap.size ≤ gb226)); have n5_ := Aside0.mk ((by rw [hg]; exact Nat.ne_of_lt (blk_lt (g := gb225) (o := .cells #[.slice A0_0 l0_0.length c0_0, .slice A0_1 l0_1.length c0_1] 56 (0, 0)) (by (with_reducible repeat (first | refine blk_drewN ?_ _ | refine blk_drew ?_ | refine blk_alloc ?_ _)); exact BK225.out)) : gb225 ≠ gb226)); have n6_ := Aside0.mk ((by rw [hg]; exact Nat.ne_of_gt (blk_lt (g := gb225) (o := .cells #[.slice A0_0 l0_0.length c0_0, .slice A0_1 l0_1.length c0_1] 56 (0, 0)) (by (with_reducible repeat (first | refine blk_drewN ?_ _ | refine blk_drew ?_ | refine blk_alloc ?_ _)); exact BK225.out)) : gb226 ≠ gb225)); clear BK225; clear HB; have BK225 := n0_; have HB := n1_; have BK226 := n2_; have GW226 := n3_; have GE226 := n4_; have NB225_226 := n5_; have NB226_225 := n6_; clear n0_ n1_ n2_ n3_ n4_ n5_ n6_; clear hb hbox hg; have hnb14 := NB225_226.out; have hnc14 := NB226_225.out; have hcz15_0 : w13.cell? ⟨gb225, 0, none⟩ = some (.slice A0_0 l0_0.length c0_0) := (blk_cell BK225.out 0).trans rfl; have hcz15_1 : w13.cell? ⟨gb225, 1, none⟩ = some (.slice A0_1 l0_1.length c0_1) := (blk_cell BK225.out 1).trans rfl; have hfz15_0 := blk_frozen BK225.out 0; have hfz15_1 := blk_frozen BK225.out 1) | ((with_reducible refine gate_callee (f := 40) rfl ?_); refine goesL_ (some 12) rfl rfl Try.func40 (by kernel_rfl) rfl #[.agg #[.slice A0_0 l0_0.length c0_0, .slice A0_1 l0_1.length c0_1], .int .i64 1048576] rfl (by (try simp only [List.map_toArray, List.map_cons, List.map_nil]); first | done | rfl | (simp only [List.length_drop, List.length_take]; rfl)) ?_; (with_reducible refine (laws_szGraph.calls k _ _ l0_0 _ _ l0_1 1048576 t227 _ ?side1 ?side2 ?side3 ?side4 A3.out).mono ?_); (case side1 => repeat (first | exact (Kd.C_below HR0_0.out HB.out) | (with_reducible refine Kd.C_alloc ?_ _) | (with_reducible refine Kd.C_drewN ?_ _) | (with_reducible refine Kd.C_drew ?_))); (case side2 => exact HC0_0.out); (case side3 => repeat (first | exact (Kd.C_below HR0_1.out HB.out) | (with_reducible refine Kd.C_alloc ?_ _) | (with_reducible refine Kd.C_drewN ?_ _) | (with_reducible refine Kd.C_drew ?_))); (case side4 => exact HC0_1.out); rintro e w16 ⟨rfl, hb⟩; refine ⟨_, rfl, ?_⟩; have n0_ := Aside0.mk (blk_below (g := gb225) (o := .cells #[.slice A0_0 l0_0.length c0_0, .slice A0_1 l0_1.length c0_1] 56 (0, 0)) (by (with_reducible repeat (first | refine blk_drewN ?_ _ | refine blk_drew ?_ | refine blk_alloc ?_ _)); exact BK225.out) hb); have n1_ := Aside0.mk (blk_below (g := gb226) (o := .cells #[.slice A1_0 l1_0.length c1_0, .slice A1_1 l1_1.length c1_1] 56 (0, 0)) (by (with_reducible repeat (first | refine blk_drewN ?_ _ | refine blk_drew ?_ | refine blk_alloc ?_ _)); exact BK226.out) hb); have n2_ := Aside0.mk (below_step (by repeat (first | (with_reducible first | exact HB.out | apply below_alloc | apply pw_below_drewN | apply below_drew1 | refine below_set ?_ GE225.out | refine below_set ?_ GE226.out) | exact HB.out)) hb); clear BK225; clear BK226; clear HB; have BK225 := n0_; have BK226 := n1_; have HB := n2_; clear n0_ n1_ n2_; (try clear hb); (try clear hb2); (try clear hk); (try clear hi); have hcz17_0 : w16.cell? ⟨gb226, 0, none⟩ = some (.slice A1_0 l1_0.length c1_0) := (blk_cell BK226.out 0).trans rfl; have hcz17_1 : w16.cell? ⟨gb226, 1, none⟩ = some (.slice A1_1 l1_1.length c1_1) := (blk_cell BK226.out 1).trans rfl; have hfz17_0 := blk_frozen BK226.out 0; have hfz17_1 := blk_frozen BK226.out 1) | ((with_reducible refine gate_callee (f := 40) rfl ?_); refine goesL_ (some 17) rfl rfl Try.func40 (by kernel_rfl) rfl #[.agg #[.slice A1_0 l1_0.length c1_0, .slice A1_1 l1_1.length c1_1], .int .i64 t227] rfl (by (try simp only [List.map_toArray, List.map_cons, List.map_nil]); first | done | rfl | (simp only [List.length_drop, List.length_take]; rfl)) ?_; (with_reducible refine (laws_szGraph.calls k _ _ l1_0 _ _ l1_1 t227 t228 _ ?side1 ?side2 ?side3 ?side4 A10.out).mono ?_); (case side1 => repeat (first | exact (Kd.C_below HR1_0.out HB.out) | (with_reducible refine Kd.C_alloc ?_ _) | (with_reducible refine Kd.C_drewN ?_ _) | (with_reducible refine Kd.C_drew ?_))); (case side2 => exact HC1_0.out); (case side3 => repeat (first | exact (Kd.C_below HR1_1.out HB.out) | (with_reducible refine Kd.C_alloc ?_ _) | (with_reducible refine Kd.C_drewN ?_ _) | (with_reducible refine Kd.C_drew ?_))); (case side4 => exact HC1_1.out); rintro e w18 ⟨rfl, hb⟩; refine ⟨_, rfl, ?_⟩; have n0_ := Aside0.mk (blk_below (g := gb225) (o := .cells #[.slice A0_0 l0_0.length c0_0, .slice A0_1 l0_1.length c0_1] 56 (0, 0)) (by (with_reducible repeat (first | refine blk_drewN ?_ _ | refine blk_drew ?_ | refine blk_alloc ?_ _)); exact BK225.out) hb); have n1_ := Aside0.mk (blk_below (g := gb226) (o := .cells #[.slice A1_0 l1_0.length c1_0, .slice A1_1 l1_1.length c1_1] 56 (0, 0)) (by (with_reducible repeat (first | refine blk_drewN ?_ _ | refine blk_drew ?_ | refine blk_alloc ?_ _)); exact BK226.out) hb); have n2_ := Aside0.mk (below_step (by repeat (first | (with_reducible first | exact HB.out | apply below_alloc | apply pw_below_drewN | apply below_drew1 | refine below_set ?_ GE225.out | refine below_set ?_ GE226.out) | exact HB.out)) hb); clear BK225; clear BK226; clear HB; have BK225 := n0_; have BK226 := n1_; have HB := n2_; clear n0_ n1_ n2_; (try clear hb); (try clear hb2); (try clear hk); (try clear hi)))
    go_ret
    exact ⟨by first | rfl | (simp [errW_none, errW_some] <;> rfl) | (simp [*, errW_none, errW_some] <;> rfl), by repeat (first | (with_reducible first | exact HB.out | apply below_alloc | apply pw_below_drewN | apply below_drew1 | refine below_set ?_ GE225.out | refine below_set ?_ GE226.out) | exact HB.out)⟩
  rw [if_neg c11] at H
  have c11b0 : decide (t228 < 0) = false := decide_eq_false c11
  clear c11
  replace H := Option.bind_eq_some_iff.mp H
  obtain ⟨⟨t229, t232⟩, A190, H⟩ := H
  replace H : ((laws_toGraph.f k l1_0 l1_1).bind fun bt235 => ((spec_SameGraphs.f k t229 t232 bt235.1 bt235.2).bind fun t241 => ((laws_toGraph.f k l0_0 l0_1).bind fun bt242 => ((laws_toGraph.f k l1_0 l1_1).bind fun bt249 => ((impl_SameGraphs.f k bt242.1 bt242.2 bt249.1 bt249.2).bind fun t256 => (if (t256 != t241) = true then (some false) else ((laws_toGraph.f k l0_0 l0_1).bind fun bt257 => ((laws_eqGraph.f k bt242.1 bt242.2 bt257.1 bt257.2).bind fun t263 => (if t263 = true then ((laws_toGraph.f k l1_0 l1_1).bind fun bt264 => ((laws_eqGraph.f k bt249.1 bt249.2 bt264.1 bt264.2).bind fun t270 => (if t270 = true then (some true) else (some false)))) else (some false)))))))))) = some r := H
  have A19 := Aside0.mk A190
  clear A190
  replace H := Option.bind_eq_some_iff.mp H
  obtain ⟨⟨t235, t238⟩, A200, H⟩ := H
  replace H : ((spec_SameGraphs.f k t229 t232 t235 t238).bind fun t241 => ((laws_toGraph.f k l0_0 l0_1).bind fun bt242 => ((laws_toGraph.f k l1_0 l1_1).bind fun bt249 => ((impl_SameGraphs.f k bt242.1 bt242.2 bt249.1 bt249.2).bind fun t256 => (if (t256 != t241) = true then (some false) else ((laws_toGraph.f k l0_0 l0_1).bind fun bt257 => ((laws_eqGraph.f k bt242.1 bt242.2 bt257.1 bt257.2).bind fun t263 => (if t263 = true then ((laws_toGraph.f k l1_0 l1_1).bind fun bt264 => ((laws_eqGraph.f k bt249.1 bt249.2 bt264.1 bt264.2).bind fun t270 => (if t270 = true then (some true) else (some false)))) else (some false))))))))) = some r := H
  have A20 := Aside0.mk A200
  clear A200
  replace H := Option.bind_eq_some_iff.mp H
  obtain ⟨t241, A210, H⟩ := H
  replace H : ((laws_toGraph.f k l0_0 l0_1).bind fun bt242 => ((laws_toGraph.f k l1_0 l1_1).bind fun bt249 => ((impl_SameGraphs.f k bt242.1 bt242.2 bt249.1 bt249.2).bind fun t256 => (if (t256 != t241) = true then (some false) else ((laws_toGraph.f k l0_0 l0_1).bind fun bt257 => ((laws_eqGraph.f k bt242.1 bt242.2 bt257.1 bt257.2).bind fun t263 => (if t263 = true then ((laws_toGraph.f k l1_0 l1_1).bind fun bt264 => ((laws_eqGraph.f k bt249.1 bt249.2 bt264.1 bt264.2).bind fun t270 => (if t270 = true then (some true) else (some false)))) else (some false)))))))) = some r := H
  have A21 := Aside0.mk A210
  clear A210
  replace H := Option.bind_eq_some_iff.mp H
  obtain ⟨⟨t242, t245⟩, A220, H⟩ := H
  replace H : ((laws_toGraph.f k l1_0 l1_1).bind fun bt249 => ((impl_SameGraphs.f k t242 t245 bt249.1 bt249.2).bind fun t256 => (if (t256 != t241) = true then (some false) else ((laws_toGraph.f k l0_0 l0_1).bind fun bt257 => ((laws_eqGraph.f k t242 t245 bt257.1 bt257.2).bind fun t263 => (if t263 = true then ((laws_toGraph.f k l1_0 l1_1).bind fun bt264 => ((laws_eqGraph.f k bt249.1 bt249.2 bt264.1 bt264.2).bind fun t270 => (if t270 = true then (some true) else (some false)))) else (some false))))))) = some r := H
  have A22 := Aside0.mk A220
  clear A220
  replace H := Option.bind_eq_some_iff.mp H
  obtain ⟨⟨t249, t252⟩, A230, H⟩ := H
  replace H : ((impl_SameGraphs.f k t242 t245 t249 t252).bind fun t256 => (if (t256 != t241) = true then (some false) else ((laws_toGraph.f k l0_0 l0_1).bind fun bt257 => ((laws_eqGraph.f k t242 t245 bt257.1 bt257.2).bind fun t263 => (if t263 = true then ((laws_toGraph.f k l1_0 l1_1).bind fun bt264 => ((laws_eqGraph.f k t249 t252 bt264.1 bt264.2).bind fun t270 => (if t270 = true then (some true) else (some false)))) else (some false)))))) = some r := H
  have A23 := Aside0.mk A230
  clear A230
  replace H := Option.bind_eq_some_iff.mp H
  obtain ⟨t256, A240, H⟩ := H
  replace H : (if (t256 != t241) = true then (some false) else ((laws_toGraph.f k l0_0 l0_1).bind fun bt257 => ((laws_eqGraph.f k t242 t245 bt257.1 bt257.2).bind fun t263 => (if t263 = true then ((laws_toGraph.f k l1_0 l1_1).bind fun bt264 => ((laws_eqGraph.f k t249 t252 bt264.1 bt264.2).bind fun t270 => (if t270 = true then (some true) else (some false)))) else (some false))))) = some r := H
  have A24 := Aside0.mk A240
  clear A240
  by_cases c25 : (t256 != t241) = true
  rw [if_pos c25] at H
  have c25b0 : (t256 != t241) = true := c25
  (try (have c25b1 : decide (t256 = t241) = false := by simpa using c25))
  (try (have c25b2 : (t256 == t241) = false := by simpa using c25))
  (try (have c25b3 : ¬ (t256 = t241) := by simpa using c25))
  clear c25
  obtain rfl := Option.some.inj H
  rotate_left
  rw [if_neg c25] at H
  have c25b0 : (t256 != t241) = false := by simpa using c25
  (try (have c25b1 : decide (t256 = t241) = true := by simpa using c25))
  (try (have c25b2 : (t256 == t241) = true := by simpa using c25))
  clear c25
  replace H := Option.bind_eq_some_iff.mp H
  obtain ⟨⟨t257, t260⟩, A600, H⟩ := H
  replace H : ((laws_eqGraph.f k t242 t245 t257 t260).bind fun t263 => (if t263 = true then ((laws_toGraph.f k l1_0 l1_1).bind fun bt264 => ((laws_eqGraph.f k t249 t252 bt264.1 bt264.2).bind fun t270 => (if t270 = true then (some true) else (some false)))) else (some false))) = some r := H
  have A60 := Aside0.mk A600
  clear A600
  replace H := Option.bind_eq_some_iff.mp H
  obtain ⟨t263, A610, H⟩ := H
  replace H : (if t263 = true then ((laws_toGraph.f k l1_0 l1_1).bind fun bt264 => ((laws_eqGraph.f k t249 t252 bt264.1 bt264.2).bind fun t270 => (if t270 = true then (some true) else (some false)))) else (some false)) = some r := H
  have A61 := Aside0.mk A610
  clear A610
  by_cases c62 : t263 = true
  subst c62
  have H1 : ((laws_toGraph.f k l1_0 l1_1).bind fun bt264 => ((laws_eqGraph.f k t249 t252 bt264.1 bt264.2).bind fun t270 => (if t270 = true then (some true) else (some false)))) = some r := by rw [if_pos rfl] at H; exact H
  clear H
  have H := H1
  clear H1
  replace H := Option.bind_eq_some_iff.mp H
  obtain ⟨⟨t264, t267⟩, A630, H⟩ := H
  replace H : ((laws_eqGraph.f k t249 t252 t264 t267).bind fun t270 => (if t270 = true then (some true) else (some false))) = some r := H
  have A63 := Aside0.mk A630
  clear A630
  replace H := Option.bind_eq_some_iff.mp H
  obtain ⟨t270, A640, H⟩ := H
  replace H : (if t270 = true then (some true) else (some false)) = some r := H
  have A64 := Aside0.mk A640
  clear A640
  by_cases c65 : t270 = true
  subst c65
  have H1 : (some true) = some r := by rw [if_pos rfl] at H; exact H
  clear H
  have H := H1
  clear H1
  obtain rfl := Option.some.inj H
  rotate_left
  replace c65 := Bool.eq_false_iff.mpr c65
  subst c65
  have H1 : (some false) = some r := by rw [if_neg (show ¬ (false = true) by decide)] at H; exact H
  clear H
  have H := H1
  clear H1
  obtain rfl := Option.some.inj H
  rotate_left
  replace c62 := Bool.eq_false_iff.mpr c62
  subst c62
  have H1 : (some false) = some r := by rw [if_neg (show ¬ (false = true) by decide)] at H; exact H
  clear H
  have H := H1
  clear H1
  obtain rfl := Option.some.inj H
  rotate_left
  all_goals (
    go_enter Try.func11, Try.ntmps11
    try go_wp2_with (first | ((with_reducible refine gate_dst (N := 2) rfl ?_); refine box_event ?hg (N := 2) ?hd (cs := #[.slice A0_0 l0_0.length c0_0, .slice A0_1 l0_1.length c0_1]) (t := 56) ?hr ?_; (case hd => rfl); (case hg => rfl); (case hr => first | (go_simp; done) | (go_simp; rfl)); intro gb9837977 hg w9875778 hbox hb; have n0_ := Aside0.mk (below_step (by repeat (first | (with_reducible first | exact HB.out | apply below_alloc | apply pw_below_drewN | apply below_drew1) | exact HB.out)) hb); have n1_ := Aside0.mk (hbox); have n2_ := Aside0.mk ((by rw [hg]; exact (below_size (by repeat (first | (with_reducible first | exact HB.out | apply below_alloc | apply pw_below_drewN | apply below_drew1) | exact HB.out))) : w.heap.size ≤ gb9837977)); have n3_ := Aside0.mk ((by rw [hg]; exact (below_size (by repeat (first | (with_reducible first | exact HB.out | apply below_alloc | apply pw_below_drewN | apply below_drew1) | exact HB.out))) : w.heap.size ≤ gb9837977)); clear HB; have HB := n0_; have BK9837977 := n1_; have GW9837977 := n2_; have GE9837977 := n3_; clear n0_ n1_ n2_ n3_; clear hb hbox hg) | ((with_reducible refine gate_dst (N := 3) rfl ?_); refine box_event ?hg (N := 3) ?hd (cs := #[.slice A1_0 l1_0.length c1_0, .slice A1_1 l1_1.length c1_1]) (t := 56) ?hr ?_; (case hd => rfl); (case hg => rfl); (case hr => first | (go_simp; done) | (go_simp; rfl)); intro gb9804400 hg w9212494 hbox hb; have n0_ := Aside0.mk (blk_below (g := gb9837977) (o := .cells #[.slice A0_0 l0_0.length c0_0, .slice A0_1 l0_1.length c0_1] 56 (0, 0)) (by (with_reducible repeat (first | refine blk_drewN ?_ _ | refine blk_drew ?_ | refine blk_alloc ?_ _)); exact BK9837977.out) hb); have n1_ := Aside0.mk (below_step (by repeat (first | (with_reducible first | exact HB.out | apply below_alloc | apply pw_below_drewN | apply below_drew1 | refine below_set ?_ GE9837977.out) | exact HB.out)) hb); have n2_ := Aside0.mk (hbox); have n3_ := Aside0.mk ((by rw [hg]; exact (below_size (by repeat (first | (with_reducible first | exact HB.out | apply below_alloc | apply pw_below_drewN | apply below_drew1 | refine below_set ?_ GE9837977.out) | exact HB.out))) : w.heap.size ≤ gb9804400)); have n4_ := Aside0.mk ((by rw [hg]; exact (below_size (by repeat (first | (with_reducible first | exact HB.out | apply below_alloc | apply pw_below_drewN | apply below_drew1 | refine below_set ?_ GE9837977.out) | exact HB.out))) : w.heap.size ≤ gb9804400)); have n5_ := Aside0.mk ((by rw [hg]; exact Nat.ne_of_lt (blk_lt (g := gb9837977) (o := .cells #[.slice A0_0 l0_0.length c0_0, .slice A0_1 l0_1.length c0_1] 56 (0, 0)) (by (with_reducible repeat (first | refine blk_drewN ?_ _ | refine blk_drew ?_ | refine blk_alloc ?_ _)); exact BK9837977.out)) : gb9837977 ≠ gb9804400)); have n6_ := Aside0.mk ((by rw [hg]; exact Nat.ne_of_gt (blk_lt (g := gb9837977) (o := .cells #[.slice A0_0 l0_0.length c0_0, .slice A0_1 l0_1.length c0_1] 56 (0, 0)) (by (with_reducible repeat (first | refine blk_drewN ?_ _ | refine blk_drew ?_ | refine blk_alloc ?_ _)); exact BK9837977.out)) : gb9804400 ≠ gb9837977)); clear BK9837977; clear HB; have BK9837977 := n0_; have HB := n1_; have BK9804400 := n2_; have GW9804400 := n3_; have GE9804400 := n4_; have NB225_226 := n5_; have NB226_225 := n6_; clear n0_ n1_ n2_ n3_ n4_ n5_ n6_; clear hb hbox hg; have hnb9843993 := NB225_226.out; have hnc9843993 := NB226_225.out; have hcz9063777_0 : w9212494.cell? ⟨gb9837977, 0, none⟩ = some (.slice A0_0 l0_0.length c0_0) := (blk_cell BK9837977.out 0).trans rfl; have hcz9063777_1 : w9212494.cell? ⟨gb9837977, 1, none⟩ = some (.slice A0_1 l0_1.length c0_1) := (blk_cell BK9837977.out 1).trans rfl; have hfz9063777_0 := blk_frozen BK9837977.out 0; have hfz9063777_1 := blk_frozen BK9837977.out 1) | ((with_reducible refine gate_callee (f := 40) rfl ?_); refine goesL_ (some 12) rfl rfl Try.func40 (by kernel_rfl) rfl #[.agg #[.slice A0_0 l0_0.length c0_0, .slice A0_1 l0_1.length c0_1], .int .i64 1048576] rfl (by (try simp only [List.map_toArray, List.map_cons, List.map_nil]); first | done | rfl | (simp only [List.length_drop, List.length_take]; rfl)) ?_; (with_reducible refine (laws_szGraph.calls k _ _ l0_0 _ _ l0_1 1048576 t227 _ ?side1 ?side2 ?side3 ?side4 A3.out).mono ?_); (case side1 => repeat (first | exact (Kd.C_below HR0_0.out HB.out) | (with_reducible refine Kd.C_alloc ?_ _) | (with_reducible refine Kd.C_drewN ?_ _) | (with_reducible refine Kd.C_drew ?_))); (case side2 => exact HC0_0.out); (case side3 => repeat (first | exact (Kd.C_below HR0_1.out HB.out) | (with_reducible refine Kd.C_alloc ?_ _) | (with_reducible refine Kd.C_drewN ?_ _) | (with_reducible refine Kd.C_drew ?_))); (case side4 => exact HC0_1.out); rintro e w9089689 ⟨rfl, hb⟩; refine ⟨_, rfl, ?_⟩; have n0_ := Aside0.mk (blk_below (g := gb9837977) (o := .cells #[.slice A0_0 l0_0.length c0_0, .slice A0_1 l0_1.length c0_1] 56 (0, 0)) (by (with_reducible repeat (first | refine blk_drewN ?_ _ | refine blk_drew ?_ | refine blk_alloc ?_ _)); exact BK9837977.out) hb); have n1_ := Aside0.mk (blk_below (g := gb9804400) (o := .cells #[.slice A1_0 l1_0.length c1_0, .slice A1_1 l1_1.length c1_1] 56 (0, 0)) (by (with_reducible repeat (first | refine blk_drewN ?_ _ | refine blk_drew ?_ | refine blk_alloc ?_ _)); exact BK9804400.out) hb); have n2_ := Aside0.mk (below_step (by repeat (first | (with_reducible first | exact HB.out | apply below_alloc | apply pw_below_drewN | apply below_drew1 | refine below_set ?_ GE9837977.out | refine below_set ?_ GE9804400.out) | exact HB.out)) hb); clear BK9837977; clear BK9804400; clear HB; have BK9837977 := n0_; have BK9804400 := n1_; have HB := n2_; clear n0_ n1_ n2_; (try clear hb); (try clear hb9914667); (try clear hk); (try clear hi); have hcz9555199_0 : w9089689.cell? ⟨gb9804400, 0, none⟩ = some (.slice A1_0 l1_0.length c1_0) := (blk_cell BK9804400.out 0).trans rfl; have hcz9555199_1 : w9089689.cell? ⟨gb9804400, 1, none⟩ = some (.slice A1_1 l1_1.length c1_1) := (blk_cell BK9804400.out 1).trans rfl; have hfz9555199_0 := blk_frozen BK9804400.out 0; have hfz9555199_1 := blk_frozen BK9804400.out 1) | ((with_reducible refine gate_callee (f := 40) rfl ?_); refine goesL_ (some 17) rfl rfl Try.func40 (by kernel_rfl) rfl #[.agg #[.slice A1_0 l1_0.length c1_0, .slice A1_1 l1_1.length c1_1], .int .i64 t227] rfl (by (try simp only [List.map_toArray, List.map_cons, List.map_nil]); first | done | rfl | (simp only [List.length_drop, List.length_take]; rfl)) ?_; (with_reducible refine (laws_szGraph.calls k _ _ l1_0 _ _ l1_1 t227 t228 _ ?side1 ?side2 ?side3 ?side4 A10.out).mono ?_); (case side1 => repeat (first | exact (Kd.C_below HR1_0.out HB.out) | (with_reducible refine Kd.C_alloc ?_ _) | (with_reducible refine Kd.C_drewN ?_ _) | (with_reducible refine Kd.C_drew ?_))); (case side2 => exact HC1_0.out); (case side3 => repeat (first | exact (Kd.C_below HR1_1.out HB.out) | (with_reducible refine Kd.C_alloc ?_ _) | (with_reducible refine Kd.C_drewN ?_ _) | (with_reducible refine Kd.C_drew ?_))); (case side4 => exact HC1_1.out); rintro e w9153356 ⟨rfl, hb⟩; refine ⟨_, rfl, ?_⟩; have n0_ := Aside0.mk (blk_below (g := gb9837977) (o := .cells #[.slice A0_0 l0_0.length c0_0, .slice A0_1 l0_1.length c0_1] 56 (0, 0)) (by (with_reducible repeat (first | refine blk_drewN ?_ _ | refine blk_drew ?_ | refine blk_alloc ?_ _)); exact BK9837977.out) hb); have n1_ := Aside0.mk (blk_below (g := gb9804400) (o := .cells #[.slice A1_0 l1_0.length c1_0, .slice A1_1 l1_1.length c1_1] 56 (0, 0)) (by (with_reducible repeat (first | refine blk_drewN ?_ _ | refine blk_drew ?_ | refine blk_alloc ?_ _)); exact BK9804400.out) hb); have n2_ := Aside0.mk (below_step (by repeat (first | (with_reducible first | exact HB.out | apply below_alloc | apply pw_below_drewN | apply below_drew1 | refine below_set ?_ GE9837977.out | refine below_set ?_ GE9804400.out) | exact HB.out)) hb); clear BK9837977; clear BK9804400; clear HB; have BK9837977 := n0_; have BK9804400 := n1_; have HB := n2_; clear n0_ n1_ n2_; (try clear hb); (try clear hb9914667); (try clear hk); (try clear hi)))
    have n0_ := Aside0.mk (blk_drew BK9837977.out)
    have n1_ := Aside0.mk (blk_drew BK9804400.out)
    have n2_ := Aside0.mk (below_drew1 HB.out)
    clear BK9837977
    clear BK9804400
    clear HB
    have BK9837977 := n0_
    have BK9804400 := n1_
    have HB := n2_
    clear n0_ n1_ n2_
    refine start_ (n := 6) (S := fun w' => w'.cell? ⟨gb9837977, 0, none⟩ = some (.slice A0_0 l0_0.length c0_0) ∧ w'.cell? ⟨gb9837977, 1, none⟩ = some (.slice A0_1 l0_1.length c0_1) ∧ w'.cell? ⟨gb9804400, 0, none⟩ = some (.slice A1_0 l1_0.length c1_0) ∧ w'.cell? ⟨gb9804400, 1, none⟩ = some (.slice A1_1 l1_1.length c1_1)) (ds := []) #[false, false, false, false, false, false] (by kernel_rfl) rfl rfl ⟨(blk_cell BK9837977.out 0).trans rfl, (blk_cell BK9837977.out 1).trans rfl, (blk_cell BK9804400.out 0).trans rfl, (blk_cell BK9804400.out 1).trans rfl⟩ (fun hHeld => ?_)
    generalize w9153356.drew = w9988283 at BK9837977 BK9804400 HB hHeld ⊢
    refine take_ (i := 0) (N := some 20) (v := ?_) (a' := ?_) #[true, false, false, false, false, false] rfl rfl (by kernel_rfl) (fun _ _ _ h => h) (Or.inl ⟨by rfl, ?_⟩) hHeld ?_ ?_
    rotate_left
    · rintro w' ⟨s0, s1, s2, s3⟩
      go_simp
      with_reducible rfl
    rotate_left
    · simp only [Act.put, List.setIfInBounds_toArray, List.set_cons_zero, List.set_cons_succ, i64_w, i32_w]
      rfl
    refine take_ (i := 2) (N := some 22) (v := ?_) (a' := ?_) #[true, false, true, false, false, false] rfl rfl (by kernel_rfl) (fun _ _ _ h => h) (Or.inl ⟨by rfl, ?_⟩) hHeld ?_ ?_
    rotate_left
    · rintro w' ⟨s0, s1, s2, s3⟩
      go_simp
      with_reducible rfl
    rotate_left
    · simp only [Act.put, List.setIfInBounds_toArray, List.set_cons_zero, List.set_cons_succ, i64_w, i32_w]
      rfl
    refine one_ (i := 1) (N := some 21) #[true, true, true, false, false, false] rfl rfl (by kernel_rfl) (by decide) (fun K hK => ?_)
    refine goes_ Try.func42 (by kernel_rfl) rfl #[.agg #[.slice A0_0 l0_0.length c0_0, .slice A0_1 l0_1.length c0_1]] (by rfl) rfl rfl (by (try simp only [List.map_toArray, List.map_cons, List.map_nil]); first | done | rfl | (simp only [List.length_drop, List.length_take]; rfl)) ?_
    with_reducible refine (laws_toGraph.calls k _ _ l0_0 _ _ l0_1 t229 t232 _ ?side1 ?side2 ?side3 ?side4 A19.out).mono ?_
    (case side1 => repeat (first | exact (Kd.C_below HR0_0.out HB.out) | (with_reducible refine Kd.C_alloc ?_ _) | (with_reducible refine Kd.C_drewN ?_ _) | (with_reducible refine Kd.C_drew ?_)))
    (case side2 => exact HC0_0.out)
    (case side3 => repeat (first | exact (Kd.C_below HR0_1.out HB.out) | (with_reducible refine Kd.C_alloc ?_ _) | (with_reducible refine Kd.C_drewN ?_ _) | (with_reducible refine Kd.C_drew ?_)))
    (case side4 => exact HC0_1.out)
    rintro e w9985327 ⟨v9296208, v9202096, rfl, ho0, ho1, hb⟩
    refine ⟨_, rfl, ?_⟩
    have n0_ := Aside0.mk (Kd.S_lower ho0 (below_size (by repeat (first | (with_reducible first | exact HB.out | apply below_alloc | apply pw_below_drewN | apply below_drew1 | refine below_set ?_ GE9837977.out | refine below_set ?_ GE9804400.out) | exact HB.out))))
    have n1_ := Aside0.mk (Kd.S_lower ho1 (below_size (by repeat (first | (with_reducible first | exact HB.out | apply below_alloc | apply pw_below_drewN | apply below_drew1 | refine below_set ?_ GE9837977.out | refine below_set ?_ GE9804400.out) | exact HB.out))))
    have n2_ := Aside0.mk (blk_below (g := gb9837977) (o := .cells #[.slice A0_0 l0_0.length c0_0, .slice A0_1 l0_1.length c0_1] 56 (0, 0)) (by (with_reducible repeat (first | refine blk_drewN ?_ _ | refine blk_drew ?_ | refine blk_alloc ?_ _)); exact BK9837977.out) hb)
    have n3_ := Aside0.mk (blk_below (g := gb9804400) (o := .cells #[.slice A1_0 l1_0.length c1_0, .slice A1_1 l1_1.length c1_1] 56 (0, 0)) (by (with_reducible repeat (first | refine blk_drewN ?_ _ | refine blk_drew ?_ | refine blk_alloc ?_ _)); exact BK9804400.out) hb)
    have n4_ := Aside0.mk (below_step (by repeat (first | (with_reducible first | exact HB.out | apply below_alloc | apply pw_below_drewN | apply below_drew1 | refine below_set ?_ GE9837977.out | refine below_set ?_ GE9804400.out) | exact HB.out)) hb)
    clear BK9837977
    clear BK9804400
    clear HB
    have HO9369609 := n0_
    have HO9781806 := n1_
    have BK9837977 := n2_
    have BK9804400 := n3_
    have HB := n4_
    clear n0_ n1_ n2_ n3_ n4_
    (try clear hb)
    (try clear hb9914667)
    (try clear hk)
    (try clear hi)
    (try clear ho0)
    (try clear ho1)
    refine hK.out _ _ ⟨(blk_cell BK9837977.out 0).trans rfl, (blk_cell BK9837977.out 1).trans rfl, (blk_cell BK9804400.out 0).trans rfl, (blk_cell BK9804400.out 1).trans rfl⟩ (fun hHeld => ?_)
    clear hK K
    refine norm_ (a' := ?_) ?_ ?_
    rotate_left
    · show Act.put _ (some 21) _ = _
      simp only [Act.put, List.setIfInBounds_toArray, List.set_cons_zero, List.set_cons_succ, i64_w, i32_w]
      rfl
    refine one_ (i := 3) (N := some 23) #[true, true, true, true, false, false] rfl rfl (by kernel_rfl) (by decide) (fun K hK => ?_)
    refine goes_ Try.func42 (by kernel_rfl) rfl #[.agg #[.slice A1_0 l1_0.length c1_0, .slice A1_1 l1_1.length c1_1]] (by rfl) rfl rfl (by (try simp only [List.map_toArray, List.map_cons, List.map_nil]); first | done | rfl | (simp only [List.length_drop, List.length_take]; rfl)) ?_
    with_reducible refine (laws_toGraph.calls k _ _ l1_0 _ _ l1_1 t235 t238 _ ?side1 ?side2 ?side3 ?side4 A20.out).mono ?_
    (case side1 => repeat (first | exact (Kd.C_below HR1_0.out HB.out) | (with_reducible refine Kd.C_alloc ?_ _) | (with_reducible refine Kd.C_drewN ?_ _) | (with_reducible refine Kd.C_drew ?_)))
    (case side2 => exact HC1_0.out)
    (case side3 => repeat (first | exact (Kd.C_below HR1_1.out HB.out) | (with_reducible refine Kd.C_alloc ?_ _) | (with_reducible refine Kd.C_drewN ?_ _) | (with_reducible refine Kd.C_drew ?_)))
    (case side4 => exact HC1_1.out)
    rintro e w9678043 ⟨v9627834, v9150947, rfl, ho0, ho1, hb⟩
    refine ⟨_, rfl, ?_⟩
    have n0_ := Aside0.mk (Kd.S_elder' (by (with_reducible repeat (first | apply Kd.S_alloc | apply Kd.S_drewN | apply Kd.S_drew)); exact HO9369609.out) (Kd.S_base ho0) hb)
    have n1_ := Aside0.mk (Kd.S_elder' (by (with_reducible repeat (first | apply Kd.S_alloc | apply Kd.S_drewN | apply Kd.S_drew)); exact HO9781806.out) (Kd.S_base ho1) hb)
    have n2_ := Aside0.mk (Kd.S_lower (Kd.S_new' ho0 (Kd.S_lt (by (with_reducible repeat (first | apply Kd.S_alloc | apply Kd.S_drewN | apply Kd.S_drew)); exact HO9369609.out))) (below_size (by repeat (first | (with_reducible first | exact HB.out | apply below_alloc | apply pw_below_drewN | apply below_drew1 | refine below_set ?_ GE9837977.out | refine below_set ?_ GE9804400.out) | exact HB.out))))
    have n3_ := Aside0.mk (Kd.S_lower (Kd.S_new' ho1 (Kd.S_lt (by (with_reducible repeat (first | apply Kd.S_alloc | apply Kd.S_drewN | apply Kd.S_drew)); exact HO9781806.out))) (below_size (by repeat (first | (with_reducible first | exact HB.out | apply below_alloc | apply pw_below_drewN | apply below_drew1 | refine below_set ?_ GE9837977.out | refine below_set ?_ GE9804400.out) | exact HB.out))))
    have n4_ := Aside0.mk (blk_below (g := gb9837977) (o := .cells #[.slice A0_0 l0_0.length c0_0, .slice A0_1 l0_1.length c0_1] 56 (0, 0)) (by (with_reducible repeat (first | refine blk_drewN ?_ _ | refine blk_drew ?_ | refine blk_alloc ?_ _)); exact BK9837977.out) hb)
    have n5_ := Aside0.mk (blk_below (g := gb9804400) (o := .cells #[.slice A1_0 l1_0.length c1_0, .slice A1_1 l1_1.length c1_1] 56 (0, 0)) (by (with_reducible repeat (first | refine blk_drewN ?_ _ | refine blk_drew ?_ | refine blk_alloc ?_ _)); exact BK9804400.out) hb)
    have n6_ := Aside0.mk (below_step (by repeat (first | (with_reducible first | exact HB.out | apply below_alloc | apply pw_below_drewN | apply below_drew1 | refine below_set ?_ GE9837977.out | refine below_set ?_ GE9804400.out) | exact HB.out)) hb)
    clear HO9369609
    clear HO9781806
    clear BK9837977
    clear BK9804400
    clear HB
    have HO9369609 := n0_
    have HO9781806 := n1_
    have HO9184929 := n2_
    have HO9916980 := n3_
    have BK9837977 := n4_
    have BK9804400 := n5_
    have HB := n6_
    clear n0_ n1_ n2_ n3_ n4_ n5_ n6_
    (try clear hb)
    (try clear hb9914667)
    (try clear hk)
    (try clear hi)
    (try clear ho0)
    (try clear ho1)
    obtain ⟨Ao9997294, co9997294, eo9997294⟩ := Kd.S_slice HO9369609.out
    (first | subst eo9997294 | (injection eo9997294 with f1_ f2_ f3_; have f4_ := f1_.symm; have f5_ := f3_.symm; clear f1_ f2_ f3_; subst f4_; subst f5_))
    obtain ⟨Ao9191956, co9191956, eo9191956⟩ := Kd.S_slice HO9781806.out
    (first | subst eo9191956 | (injection eo9191956 with f1_ f2_ f3_; have f4_ := f1_.symm; have f5_ := f3_.symm; clear f1_ f2_ f3_; subst f4_; subst f5_))
    obtain ⟨Ao9117442, co9117442, eo9117442⟩ := Kd.S_slice HO9184929.out
    (first | subst eo9117442 | (injection eo9117442 with f1_ f2_ f3_; have f4_ := f1_.symm; have f5_ := f3_.symm; clear f1_ f2_ f3_; subst f4_; subst f5_))
    obtain ⟨Ao9533492, co9533492, eo9533492⟩ := Kd.S_slice HO9916980.out
    (first | subst eo9533492 | (injection eo9533492 with f1_ f2_ f3_; have f4_ := f1_.symm; have f5_ := f3_.symm; clear f1_ f2_ f3_; subst f4_; subst f5_))
    refine hK.out _ _ ⟨(blk_cell BK9837977.out 0).trans rfl, (blk_cell BK9837977.out 1).trans rfl, (blk_cell BK9804400.out 0).trans rfl, (blk_cell BK9804400.out 1).trans rfl⟩ (fun hHeld => ?_)
    clear hK K
    refine norm_ (a' := ?_) ?_ ?_
    rotate_left
    · show Act.put _ (some 23) _ = _
      simp only [Act.put, List.setIfInBounds_toArray, List.set_cons_zero, List.set_cons_succ, i64_w, i32_w]
      rfl
    refine one_ (i := 4) (N := some 24) #[true, true, true, true, true, false] rfl rfl (by kernel_rfl) (by decide) (fun K hK => ?_)
    refine goes_ Try.func41 (by kernel_rfl) rfl #[.agg #[.slice Ao9997294 t229.length co9997294, .slice Ao9191956 t232.length co9191956], .agg #[.slice Ao9117442 t235.length co9117442, .slice Ao9533492 t238.length co9533492]] (by rfl) rfl rfl (by (try simp only [List.map_toArray, List.map_cons, List.map_nil]); first | done | rfl | (simp only [List.length_drop, List.length_take]; rfl)) ?_
    with_reducible refine (spec_SameGraphs.calls k _ _ t229 _ _ t232 _ _ t235 _ _ t238 t241 _ ?side1 ?side2 ?side3 ?side4 ?side5 ?side6 ?side7 ?side8 A21.out).mono ?_
    (case side1 => repeat (first | exact (Kd.S_reads' HO9369609.out).2.2 | (with_reducible refine Kd.C_alloc ?_ _) | (with_reducible refine Kd.C_drewN ?_ _) | (with_reducible refine Kd.C_drew ?_)))
    (case side2 => exact (Kd.S_reads' HO9369609.out).2.1)
    (case side3 => repeat (first | exact (Kd.S_reads' HO9781806.out).2.2 | (with_reducible refine Kd.C_alloc ?_ _) | (with_reducible refine Kd.C_drewN ?_ _) | (with_reducible refine Kd.C_drew ?_)))
    (case side4 => exact (Kd.S_reads' HO9781806.out).2.1)
    (case side5 => repeat (first | exact (Kd.S_reads' HO9184929.out).2.2 | (with_reducible refine Kd.C_alloc ?_ _) | (with_reducible refine Kd.C_drewN ?_ _) | (with_reducible refine Kd.C_drew ?_)))
    (case side6 => exact (Kd.S_reads' HO9184929.out).2.1)
    (case side7 => repeat (first | exact (Kd.S_reads' HO9916980.out).2.2 | (with_reducible refine Kd.C_alloc ?_ _) | (with_reducible refine Kd.C_drewN ?_ _) | (with_reducible refine Kd.C_drew ?_)))
    (case side8 => exact (Kd.S_reads' HO9916980.out).2.1)
    rintro e w9727099 ⟨rfl, hb⟩
    refine ⟨_, rfl, ?_⟩
    have n0_ := Aside0.mk (Kd.S_below (by (with_reducible repeat (first | apply Kd.S_alloc | apply Kd.S_drewN | apply Kd.S_drew)); exact HO9369609.out) hb)
    have n1_ := Aside0.mk (Kd.S_below (by (with_reducible repeat (first | apply Kd.S_alloc | apply Kd.S_drewN | apply Kd.S_drew)); exact HO9781806.out) hb)
    have n2_ := Aside0.mk (Kd.S_below (by (with_reducible repeat (first | apply Kd.S_alloc | apply Kd.S_drewN | apply Kd.S_drew)); exact HO9184929.out) hb)
    have n3_ := Aside0.mk (Kd.S_below (by (with_reducible repeat (first | apply Kd.S_alloc | apply Kd.S_drewN | apply Kd.S_drew)); exact HO9916980.out) hb)
    have n4_ := Aside0.mk (blk_below (g := gb9837977) (o := .cells #[.slice A0_0 l0_0.length c0_0, .slice A0_1 l0_1.length c0_1] 56 (0, 0)) (by (with_reducible repeat (first | refine blk_drewN ?_ _ | refine blk_drew ?_ | refine blk_alloc ?_ _)); exact BK9837977.out) hb)
    have n5_ := Aside0.mk (blk_below (g := gb9804400) (o := .cells #[.slice A1_0 l1_0.length c1_0, .slice A1_1 l1_1.length c1_1] 56 (0, 0)) (by (with_reducible repeat (first | refine blk_drewN ?_ _ | refine blk_drew ?_ | refine blk_alloc ?_ _)); exact BK9804400.out) hb)
    have n6_ := Aside0.mk (below_step (by repeat (first | (with_reducible first | exact HB.out | apply below_alloc | apply pw_below_drewN | apply below_drew1 | refine below_set ?_ GE9837977.out | refine below_set ?_ GE9804400.out) | exact HB.out)) hb)
    clear HO9369609
    clear HO9781806
    clear HO9184929
    clear HO9916980
    clear BK9837977
    clear BK9804400
    clear HB
    have HO9369609 := n0_
    have HO9781806 := n1_
    have HO9184929 := n2_
    have HO9916980 := n3_
    have BK9837977 := n4_
    have BK9804400 := n5_
    have HB := n6_
    clear n0_ n1_ n2_ n3_ n4_ n5_ n6_
    (try clear hb)
    (try clear hb9914667)
    (try clear hk)
    (try clear hi)
    refine hK.out _ _ ⟨(blk_cell BK9837977.out 0).trans rfl, (blk_cell BK9837977.out 1).trans rfl, (blk_cell BK9804400.out 0).trans rfl, (blk_cell BK9804400.out 1).trans rfl⟩ (fun hHeld => ?_)
    clear hK K
    refine norm_ (a' := ?_) ?_ ?_
    rotate_left
    · show Act.put _ (some 24) _ = _
      simp only [Act.put, List.setIfInBounds_toArray, List.set_cons_zero, List.set_cons_succ, i64_w, i32_w]
      rfl
    refine pure_ (i := 5) (N := some 6) (v := ?_) (a' := ?_) #[true, true, true, true, true, true] rfl rfl (by kernel_rfl) (fun _ _ _ h => h) (Or.inl ⟨by rfl, ?_⟩) ?_ ?_
    rotate_left
    · intro w'
      go_simp
      with_reducible rfl
    rotate_left
    · simp only [Act.put, List.setIfInBounds_toArray, List.set_cons_zero, List.set_cons_succ, i64_w, i32_w]
      rfl
    refine done_ (by kernel_rfl) ?_
    have hcz9856104_0 : w9727099.cell? ⟨gb9837977, 0, none⟩ = some (.slice A0_0 l0_0.length c0_0) := (blk_cell BK9837977.out 0).trans rfl
    have hcz9856104_1 : w9727099.cell? ⟨gb9837977, 1, none⟩ = some (.slice A0_1 l0_1.length c0_1) := (blk_cell BK9837977.out 1).trans rfl
    have hfz9856104_0 := blk_frozen BK9837977.out 0
    have hfz9856104_1 := blk_frozen BK9837977.out 1
    try go_wp2_with (first | ((with_reducible refine gate_callee (f := 42) rfl ?_); refine goesL_ (some 26) rfl rfl Try.func42 (by kernel_rfl) rfl #[.agg #[.slice A0_0 l0_0.length c0_0, .slice A0_1 l0_1.length c0_1]] rfl (by (try simp only [List.map_toArray, List.map_cons, List.map_nil]); first | done | rfl | (simp only [List.length_drop, List.length_take]; rfl)) ?_; (with_reducible refine (laws_toGraph.calls k _ _ l0_0 _ _ l0_1 t242 t245 _ ?side1 ?side2 ?side3 ?side4 A22.out).mono ?_); (case side1 => repeat (first | exact (Kd.C_below HR0_0.out HB.out) | (with_reducible refine Kd.C_alloc ?_ _) | (with_reducible refine Kd.C_drewN ?_ _) | (with_reducible refine Kd.C_drew ?_))); (case side2 => exact HC0_0.out); (case side3 => repeat (first | exact (Kd.C_below HR0_1.out HB.out) | (with_reducible refine Kd.C_alloc ?_ _) | (with_reducible refine Kd.C_drewN ?_ _) | (with_reducible refine Kd.C_drew ?_))); (case side4 => exact HC0_1.out); rintro e w9620672 ⟨v9292335, v9587022, rfl, ho0, ho1, hb⟩; refine ⟨_, rfl, ?_⟩; have n0_ := Aside0.mk (Kd.S_elder' (by (with_reducible repeat (first | apply Kd.S_alloc | apply Kd.S_drewN | apply Kd.S_drew)); exact HO9369609.out) (Kd.S_base ho0) hb); have n1_ := Aside0.mk (Kd.S_elder' (by (with_reducible repeat (first | apply Kd.S_alloc | apply Kd.S_drewN | apply Kd.S_drew)); exact HO9781806.out) (Kd.S_base ho1) hb); have n2_ := Aside0.mk (Kd.S_elder' (by (with_reducible repeat (first | apply Kd.S_alloc | apply Kd.S_drewN | apply Kd.S_drew)); exact HO9184929.out) (Kd.S_base ho0) hb); have n3_ := Aside0.mk (Kd.S_elder' (by (with_reducible repeat (first | apply Kd.S_alloc | apply Kd.S_drewN | apply Kd.S_drew)); exact HO9916980.out) (Kd.S_base ho1) hb); have n4_ := Aside0.mk (Kd.S_lower (Kd.S_new' (Kd.S_new' ho0 (Kd.S_lt (by (with_reducible repeat (first | apply Kd.S_alloc | apply Kd.S_drewN | apply Kd.S_drew)); exact HO9369609.out))) (Kd.S_lt (by (with_reducible repeat (first | apply Kd.S_alloc | apply Kd.S_drewN | apply Kd.S_drew)); exact HO9184929.out))) (below_size (by repeat (first | (with_reducible first | exact HB.out | apply below_alloc | apply pw_below_drewN | apply below_drew1 | refine below_set ?_ GE9837977.out | refine below_set ?_ GE9804400.out) | exact HB.out)))); have n5_ := Aside0.mk (Kd.S_lower (Kd.S_new' (Kd.S_new' ho1 (Kd.S_lt (by (with_reducible repeat (first | apply Kd.S_alloc | apply Kd.S_drewN | apply Kd.S_drew)); exact HO9781806.out))) (Kd.S_lt (by (with_reducible repeat (first | apply Kd.S_alloc | apply Kd.S_drewN | apply Kd.S_drew)); exact HO9916980.out))) (below_size (by repeat (first | (with_reducible first | exact HB.out | apply below_alloc | apply pw_below_drewN | apply below_drew1 | refine below_set ?_ GE9837977.out | refine below_set ?_ GE9804400.out) | exact HB.out)))); have n6_ := Aside0.mk (blk_below (g := gb9837977) (o := .cells #[.slice A0_0 l0_0.length c0_0, .slice A0_1 l0_1.length c0_1] 56 (0, 0)) (by (with_reducible repeat (first | refine blk_drewN ?_ _ | refine blk_drew ?_ | refine blk_alloc ?_ _)); exact BK9837977.out) hb); have n7_ := Aside0.mk (blk_below (g := gb9804400) (o := .cells #[.slice A1_0 l1_0.length c1_0, .slice A1_1 l1_1.length c1_1] 56 (0, 0)) (by (with_reducible repeat (first | refine blk_drewN ?_ _ | refine blk_drew ?_ | refine blk_alloc ?_ _)); exact BK9804400.out) hb); have n8_ := Aside0.mk (below_step (by repeat (first | (with_reducible first | exact HB.out | apply below_alloc | apply pw_below_drewN | apply below_drew1 | refine below_set ?_ GE9837977.out | refine below_set ?_ GE9804400.out) | exact HB.out)) hb); clear HO9369609; clear HO9781806; clear HO9184929; clear HO9916980; clear BK9837977; clear BK9804400; clear HB; have HO9369609 := n0_; have HO9781806 := n1_; have HO9184929 := n2_; have HO9916980 := n3_; have HO9455877 := n4_; have HO9572939 := n5_; have BK9837977 := n6_; have BK9804400 := n7_; have HB := n8_; clear n0_ n1_ n2_ n3_ n4_ n5_ n6_ n7_ n8_; (try clear hb); (try clear hb9914667); (try clear hk); (try clear hi); (try clear ho0); (try clear ho1)) | ((with_reducible refine gate_dst (N := 7) rfl ?_); refine box_event ?hg (N := 7) ?hd (cs := #[.slice none 0 0, .slice none 0 0]) (t := 62) ?hr ?_; (case hd => rfl); (case hg => rfl); (case hr => first | (go_simp; done) | (go_simp; rfl)); intro gb9772540 hg w9533936 hbox hb; have n0_ := Aside0.mk (Kd.S_below (by (with_reducible repeat (first | apply Kd.S_alloc | apply Kd.S_drewN | apply Kd.S_drew)); exact HO9369609.out) hb); have n1_ := Aside0.mk (Kd.S_below (by (with_reducible repeat (first | apply Kd.S_alloc | apply Kd.S_drewN | apply Kd.S_drew)); exact HO9781806.out) hb); have n2_ := Aside0.mk (Kd.S_below (by (with_reducible repeat (first | apply Kd.S_alloc | apply Kd.S_drewN | apply Kd.S_drew)); exact HO9184929.out) hb); have n3_ := Aside0.mk (Kd.S_below (by (with_reducible repeat (first | apply Kd.S_alloc | apply Kd.S_drewN | apply Kd.S_drew)); exact HO9916980.out) hb); have n4_ := Aside0.mk (Kd.S_below (by (with_reducible repeat (first | apply Kd.S_alloc | apply Kd.S_drewN | apply Kd.S_drew)); exact HO9455877.out) hb); have n5_ := Aside0.mk (Kd.S_below (by (with_reducible repeat (first | apply Kd.S_alloc | apply Kd.S_drewN | apply Kd.S_drew)); exact HO9572939.out) hb); have n6_ := Aside0.mk (blk_below (g := gb9837977) (o := .cells #[.slice A0_0 l0_0.length c0_0, .slice A0_1 l0_1.length c0_1] 56 (0, 0)) (by (with_reducible repeat (first | refine blk_drewN ?_ _ | refine blk_drew ?_ | refine blk_alloc ?_ _)); exact BK9837977.out) hb); have n7_ := Aside0.mk (blk_below (g := gb9804400) (o := .cells #[.slice A1_0 l1_0.length c1_0, .slice A1_1 l1_1.length c1_1] 56 (0, 0)) (by (with_reducible repeat (first | refine blk_drewN ?_ _ | refine blk_drew ?_ | refine blk_alloc ?_ _)); exact BK9804400.out) hb); have n8_ := Aside0.mk (below_step (by repeat (first | (with_reducible first | exact HB.out | apply below_alloc | apply pw_below_drewN | apply below_drew1 | refine below_set ?_ GE9837977.out | refine below_set ?_ GE9804400.out) | exact HB.out)) hb); have n9_ := Aside0.mk (hbox); have n10_ := Aside0.mk ((by rw [hg]; exact (below_size (by repeat (first | (with_reducible first | exact HB.out | apply below_alloc | apply pw_below_drewN | apply below_drew1 | refine below_set ?_ GE9837977.out | refine below_set ?_ GE9804400.out) | exact HB.out))) : w.heap.size ≤ gb9772540)); have n11_ := Aside0.mk ((by rw [hg]; exact (below_size (by repeat (first | (with_reducible first | exact HB.out | apply below_alloc | apply pw_below_drewN | apply below_drew1 | refine below_set ?_ GE9837977.out | refine below_set ?_ GE9804400.out) | exact HB.out))) : w.heap.size ≤ gb9772540)); have n12_ := Aside0.mk ((by rw [hg]; exact Nat.ne_of_lt (blk_lt (g := gb9837977) (o := .cells #[.slice A0_0 l0_0.length c0_0, .slice A0_1 l0_1.length c0_1] 56 (0, 0)) (by (with_reducible repeat (first | refine blk_drewN ?_ _ | refine blk_drew ?_ | refine blk_alloc ?_ _)); exact BK9837977.out)) : gb9837977 ≠ gb9772540)); have n13_ := Aside0.mk ((by rw [hg]; exact Nat.ne_of_gt (blk_lt (g := gb9837977) (o := .cells #[.slice A0_0 l0_0.length c0_0, .slice A0_1 l0_1.length c0_1] 56 (0, 0)) (by (with_reducible repeat (first | refine blk_drewN ?_ _ | refine blk_drew ?_ | refine blk_alloc ?_ _)); exact BK9837977.out)) : gb9772540 ≠ gb9837977)); have n14_ := Aside0.mk ((by rw [hg]; exact Nat.ne_of_lt (blk_lt (g := gb9804400) (o := .cells #[.slice A1_0 l1_0.length c1_0, .slice A1_1 l1_1.length c1_1] 56 (0, 0)) (by (with_reducible repeat (first | refine blk_drewN ?_ _ | refine blk_drew ?_ | refine blk_alloc ?_ _)); exact BK9804400.out)) : gb9804400 ≠ gb9772540)); have n15_ := Aside0.mk ((by rw [hg]; exact Nat.ne_of_gt (blk_lt (g := gb9804400) (o := .cells #[.slice A1_0 l1_0.length c1_0, .slice A1_1 l1_1.length c1_1] 56 (0, 0)) (by (with_reducible repeat (first | refine blk_drewN ?_ _ | refine blk_drew ?_ | refine blk_alloc ?_ _)); exact BK9804400.out)) : gb9772540 ≠ gb9804400)); clear HO9369609; clear HO9781806; clear HO9184929; clear HO9916980; clear HO9455877; clear HO9572939; clear BK9837977; clear BK9804400; clear HB; have HO9369609 := n0_; have HO9781806 := n1_; have HO9184929 := n2_; have HO9916980 := n3_; have HO9455877 := n4_; have HO9572939 := n5_; have BK9837977 := n6_; have BK9804400 := n7_; have HB := n8_; have BK9772540 := n9_; have GW9772540 := n10_; have GE9772540 := n11_; have NB225_248 := n12_; have NB248_225 := n13_; have NB226_248 := n14_; have NB248_226 := n15_; clear n0_ n1_ n2_ n3_ n4_ n5_ n6_ n7_ n8_ n9_ n10_ n11_ n12_ n13_ n14_ n15_; clear hb hbox hg; obtain ⟨Ao9393009, co9393009, eo9393009⟩ := Kd.S_slice HO9455877.out; subst eo9393009; have hnb9270784 := NB248_225.out; have hnc9270784 := NB225_248.out; have hnb9790098 := NB248_226.out; have hnc9790098 := NB226_248.out; have hcz9487393_0 : w9533936.cell? ⟨gb9772540, 0, none⟩ = some (.slice none 0 0) := (blk_cell BK9772540.out 0).trans rfl; have hcz9487393_1 : w9533936.cell? ⟨gb9772540, 1, none⟩ = some (.slice none 0 0) := (blk_cell BK9772540.out 1).trans rfl; have hfz9487393_0 := blk_frozen BK9772540.out 0; have hfz9487393_1 := blk_frozen BK9772540.out 1; obtain ⟨Ao9227058, co9227058, eo9227058⟩ := Kd.S_slice HO9572939.out; subst eo9227058; have hcz9800768_0 : w9533936.cell? ⟨gb9804400, 0, none⟩ = some (.slice A1_0 l1_0.length c1_0) := (blk_cell BK9804400.out 0).trans rfl; have hcz9800768_1 : w9533936.cell? ⟨gb9804400, 1, none⟩ = some (.slice A1_1 l1_1.length c1_1) := (blk_cell BK9804400.out 1).trans rfl; have hfz9800768_0 := blk_frozen BK9804400.out 0; have hfz9800768_1 := blk_frozen BK9804400.out 1) | ((with_reducible refine gate_callee (f := 42) rfl ?_); refine goesL_ (some 28) rfl rfl Try.func42 (by kernel_rfl) rfl #[.agg #[.slice A1_0 l1_0.length c1_0, .slice A1_1 l1_1.length c1_1]] rfl (by (try simp only [List.map_toArray, List.map_cons, List.map_nil]); first | done | rfl | (simp only [List.length_drop, List.length_take]; rfl)) ?_; (with_reducible refine (laws_toGraph.calls k _ _ l1_0 _ _ l1_1 t249 t252 _ ?side1 ?side2 ?side3 ?side4 A23.out).mono ?_); (case side1 => exact Kd.C_below HR1_0.out (by repeat (first | (with_reducible first | exact HB.out | apply below_alloc | apply pw_below_drewN | apply below_drew1 | refine below_set ?_ GE9837977.out | refine below_set ?_ GE9804400.out | refine below_set ?_ GE9772540.out) | exact HB.out))); (case side2 => exact HC1_0.out); (case side3 => exact Kd.C_below HR1_1.out (by repeat (first | (with_reducible first | exact HB.out | apply below_alloc | apply pw_below_drewN | apply below_drew1 | refine below_set ?_ GE9837977.out | refine below_set ?_ GE9804400.out | refine below_set ?_ GE9772540.out) | exact HB.out))); (case side4 => exact HC1_1.out); rintro e w9945032 ⟨v9279595, v9762135, rfl, ho0, ho1, hb⟩; refine ⟨_, rfl, ?_⟩; have n0_ := Aside0.mk (Kd.S_elder' (by (with_reducible repeat (first | apply Kd.S_alloc | apply Kd.S_drewN | apply Kd.S_drew)); exact (Kd.S_mono (Kd.S_far (p := ⟨gb9772540, 1, none⟩) (Kd.S_far (p := ⟨gb9772540, 0, none⟩) (Kd.S_types HO9369609.out BK9772540.out (by decide)) (fun _ hk => hk.2) (.slice Ao9393009 t242.length co9393009)) (fun _ hk => hk.2) (.slice Ao9227058 t245.length co9227058)) (fun _ h_ => h_.1))) (Kd.S_base ho0) hb); have n1_ := Aside0.mk (Kd.S_elder' (by (with_reducible repeat (first | apply Kd.S_alloc | apply Kd.S_drewN | apply Kd.S_drew)); exact (Kd.S_mono (Kd.S_far (p := ⟨gb9772540, 1, none⟩) (Kd.S_far (p := ⟨gb9772540, 0, none⟩) (Kd.S_types HO9781806.out BK9772540.out (by decide)) (fun _ hk => hk.2) (.slice Ao9393009 t242.length co9393009)) (fun _ hk => hk.2) (.slice Ao9227058 t245.length co9227058)) (fun _ h_ => h_.1))) (Kd.S_base ho1) hb); have n2_ := Aside0.mk (Kd.S_elder' (by (with_reducible repeat (first | apply Kd.S_alloc | apply Kd.S_drewN | apply Kd.S_drew)); exact (Kd.S_mono (Kd.S_far (p := ⟨gb9772540, 1, none⟩) (Kd.S_far (p := ⟨gb9772540, 0, none⟩) (Kd.S_types HO9184929.out BK9772540.out (by decide)) (fun _ hk => hk.2) (.slice Ao9393009 t242.length co9393009)) (fun _ hk => hk.2) (.slice Ao9227058 t245.length co9227058)) (fun _ h_ => h_.1))) (Kd.S_base ho0) hb); have n3_ := Aside0.mk (Kd.S_elder' (by (with_reducible repeat (first | apply Kd.S_alloc | apply Kd.S_drewN | apply Kd.S_drew)); exact (Kd.S_mono (Kd.S_far (p := ⟨gb9772540, 1, none⟩) (Kd.S_far (p := ⟨gb9772540, 0, none⟩) (Kd.S_types HO9916980.out BK9772540.out (by decide)) (fun _ hk => hk.2) (.slice Ao9393009 t242.length co9393009)) (fun _ hk => hk.2) (.slice Ao9227058 t245.length co9227058)) (fun _ h_ => h_.1))) (Kd.S_base ho1) hb); have n4_ := Aside0.mk (Kd.S_elder' (by (with_reducible repeat (first | apply Kd.S_alloc | apply Kd.S_drewN | apply Kd.S_drew)); exact (Kd.S_mono (Kd.S_far (p := ⟨gb9772540, 1, none⟩) (Kd.S_far (p := ⟨gb9772540, 0, none⟩) (Kd.S_types HO9455877.out BK9772540.out (by decide)) (fun _ hk => hk.2) (.slice Ao9393009 t242.length co9393009)) (fun _ hk => hk.2) (.slice Ao9227058 t245.length co9227058)) (fun _ h_ => h_.1))) (Kd.S_base ho0) hb); have n5_ := Aside0.mk (Kd.S_elder' (by (with_reducible repeat (first | apply Kd.S_alloc | apply Kd.S_drewN | apply Kd.S_drew)); exact (Kd.S_mono (Kd.S_far (p := ⟨gb9772540, 1, none⟩) (Kd.S_far (p := ⟨gb9772540, 0, none⟩) (Kd.S_types HO9572939.out BK9772540.out (by decide)) (fun _ hk => hk.2) (.slice Ao9393009 t242.length co9393009)) (fun _ hk => hk.2) (.slice Ao9227058 t245.length co9227058)) (fun _ h_ => h_.1))) (Kd.S_base ho1) hb); have n6_ := Aside0.mk (Kd.S_lower (Kd.S_new' (Kd.S_new' (Kd.S_new' ho0 (Kd.S_lt (by (with_reducible repeat (first | apply Kd.S_alloc | apply Kd.S_drewN | apply Kd.S_drew)); exact (Kd.S_mono (Kd.S_far (p := ⟨gb9772540, 1, none⟩) (Kd.S_far (p := ⟨gb9772540, 0, none⟩) (Kd.S_types HO9369609.out BK9772540.out (by decide)) (fun _ hk => hk.2) (.slice Ao9393009 t242.length co9393009)) (fun _ hk => hk.2) (.slice Ao9227058 t245.length co9227058)) (fun _ h_ => h_.1))))) (Kd.S_lt (by (with_reducible repeat (first | apply Kd.S_alloc | apply Kd.S_drewN | apply Kd.S_drew)); exact (Kd.S_mono (Kd.S_far (p := ⟨gb9772540, 1, none⟩) (Kd.S_far (p := ⟨gb9772540, 0, none⟩) (Kd.S_types HO9184929.out BK9772540.out (by decide)) (fun _ hk => hk.2) (.slice Ao9393009 t242.length co9393009)) (fun _ hk => hk.2) (.slice Ao9227058 t245.length co9227058)) (fun _ h_ => h_.1))))) (Kd.S_lt (by (with_reducible repeat (first | apply Kd.S_alloc | apply Kd.S_drewN | apply Kd.S_drew)); exact (Kd.S_mono (Kd.S_far (p := ⟨gb9772540, 1, none⟩) (Kd.S_far (p := ⟨gb9772540, 0, none⟩) (Kd.S_types HO9455877.out BK9772540.out (by decide)) (fun _ hk => hk.2) (.slice Ao9393009 t242.length co9393009)) (fun _ hk => hk.2) (.slice Ao9227058 t245.length co9227058)) (fun _ h_ => h_.1))))) (below_size (by repeat (first | (with_reducible first | exact HB.out | apply below_alloc | apply pw_below_drewN | apply below_drew1 | refine below_set ?_ GE9837977.out | refine below_set ?_ GE9804400.out | refine below_set ?_ GE9772540.out) | exact HB.out)))); have n7_ := Aside0.mk (Kd.S_lower (Kd.S_new' (Kd.S_new' (Kd.S_new' ho1 (Kd.S_lt (by (with_reducible repeat (first | apply Kd.S_alloc | apply Kd.S_drewN | apply Kd.S_drew)); exact (Kd.S_mono (Kd.S_far (p := ⟨gb9772540, 1, none⟩) (Kd.S_far (p := ⟨gb9772540, 0, none⟩) (Kd.S_types HO9781806.out BK9772540.out (by decide)) (fun _ hk => hk.2) (.slice Ao9393009 t242.length co9393009)) (fun _ hk => hk.2) (.slice Ao9227058 t245.length co9227058)) (fun _ h_ => h_.1))))) (Kd.S_lt (by (with_reducible repeat (first | apply Kd.S_alloc | apply Kd.S_drewN | apply Kd.S_drew)); exact (Kd.S_mono (Kd.S_far (p := ⟨gb9772540, 1, none⟩) (Kd.S_far (p := ⟨gb9772540, 0, none⟩) (Kd.S_types HO9916980.out BK9772540.out (by decide)) (fun _ hk => hk.2) (.slice Ao9393009 t242.length co9393009)) (fun _ hk => hk.2) (.slice Ao9227058 t245.length co9227058)) (fun _ h_ => h_.1))))) (Kd.S_lt (by (with_reducible repeat (first | apply Kd.S_alloc | apply Kd.S_drewN | apply Kd.S_drew)); exact (Kd.S_mono (Kd.S_far (p := ⟨gb9772540, 1, none⟩) (Kd.S_far (p := ⟨gb9772540, 0, none⟩) (Kd.S_types HO9572939.out BK9772540.out (by decide)) (fun _ hk => hk.2) (.slice Ao9393009 t242.length co9393009)) (fun _ hk => hk.2) (.slice Ao9227058 t245.length co9227058)) (fun _ h_ => h_.1))))) (below_size (by repeat (first | (with_reducible first | exact HB.out | apply below_alloc | apply pw_below_drewN | apply below_drew1 | refine below_set ?_ GE9837977.out | refine below_set ?_ GE9804400.out | refine below_set ?_ GE9772540.out) | exact HB.out)))); have n8_ := Aside0.mk (blk_below (g := gb9837977) (o := .cells #[.slice A0_0 l0_0.length c0_0, .slice A0_1 l0_1.length c0_1] 56 (0, 0)) (by (with_reducible repeat (first | refine blk_drewN ?_ _ | refine blk_drew ?_ | refine blk_alloc ?_ _)); refine blk_far ?_ NB225_248.out _; (with_reducible repeat (first | refine blk_drewN ?_ _ | refine blk_drew ?_ | refine blk_alloc ?_ _)); refine blk_far ?_ NB225_248.out _; (with_reducible repeat (first | refine blk_drewN ?_ _ | refine blk_drew ?_ | refine blk_alloc ?_ _)); exact BK9837977.out) hb); have n9_ := Aside0.mk (blk_below (g := gb9804400) (o := .cells #[.slice A1_0 l1_0.length c1_0, .slice A1_1 l1_1.length c1_1] 56 (0, 0)) (by (with_reducible repeat (first | refine blk_drewN ?_ _ | refine blk_drew ?_ | refine blk_alloc ?_ _)); refine blk_far ?_ NB226_248.out _; (with_reducible repeat (first | refine blk_drewN ?_ _ | refine blk_drew ?_ | refine blk_alloc ?_ _)); refine blk_far ?_ NB226_248.out _; (with_reducible repeat (first | refine blk_drewN ?_ _ | refine blk_drew ?_ | refine blk_alloc ?_ _)); exact BK9804400.out) hb); have n10_ := Aside0.mk (blk_below (g := gb9772540) (o := .cells #[.slice Ao9393009 t242.length co9393009, .slice Ao9227058 t245.length co9227058] 62 (0, 0)) (by (with_reducible repeat (first | refine blk_drewN ?_ _ | refine blk_drew ?_ | refine blk_alloc ?_ _)); refine blk_put (cs := #[.slice Ao9393009 t242.length co9393009, .slice none 0 0]) ?_ 1 _ rfl; (with_reducible repeat (first | refine blk_drewN ?_ _ | refine blk_drew ?_ | refine blk_alloc ?_ _)); refine blk_put (cs := #[.slice none 0 0, .slice none 0 0]) ?_ 0 _ rfl; (with_reducible repeat (first | refine blk_drewN ?_ _ | refine blk_drew ?_ | refine blk_alloc ?_ _)); exact BK9772540.out) hb); have n11_ := Aside0.mk (below_step (by repeat (first | (with_reducible first | exact HB.out | apply below_alloc | apply pw_below_drewN | apply below_drew1 | refine below_set ?_ GE9837977.out | refine below_set ?_ GE9804400.out | refine below_set ?_ GE9772540.out) | exact HB.out)) hb); clear HO9369609; clear HO9781806; clear HO9184929; clear HO9916980; clear HO9455877; clear HO9572939; clear BK9837977; clear BK9804400; clear BK9772540; clear HB; have HO9369609 := n0_; have HO9781806 := n1_; have HO9184929 := n2_; have HO9916980 := n3_; have HO9455877 := n4_; have HO9572939 := n5_; have HO9767654 := n6_; have HO9871881 := n7_; have BK9837977 := n8_; have BK9804400 := n9_; have BK9772540 := n10_; have HB := n11_; clear n0_ n1_ n2_ n3_ n4_ n5_ n6_ n7_ n8_ n9_ n10_ n11_; (try clear hb); (try clear hb9914667); (try clear hk); (try clear hi); (try clear ho0); (try clear ho1)) | ((with_reducible refine gate_dst (N := 8) rfl ?_); refine box_event ?hg (N := 8) ?hd (cs := #[.slice none 0 0, .slice none 0 0]) (t := 62) ?hr ?_; (case hd => rfl); (case hg => rfl); (case hr => first | (go_simp; done) | (go_simp; rfl)); intro gb9208327 hg w9019911 hbox hb; have n0_ := Aside0.mk (Kd.S_below (by (with_reducible repeat (first | apply Kd.S_alloc | apply Kd.S_drewN | apply Kd.S_drew)); exact HO9369609.out) hb); have n1_ := Aside0.mk (Kd.S_below (by (with_reducible repeat (first | apply Kd.S_alloc | apply Kd.S_drewN | apply Kd.S_drew)); exact HO9781806.out) hb); have n2_ := Aside0.mk (Kd.S_below (by (with_reducible repeat (first | apply Kd.S_alloc | apply Kd.S_drewN | apply Kd.S_drew)); exact HO9184929.out) hb); have n3_ := Aside0.mk (Kd.S_below (by (with_reducible repeat (first | apply Kd.S_alloc | apply Kd.S_drewN | apply Kd.S_drew)); exact HO9916980.out) hb); have n4_ := Aside0.mk (Kd.S_below (by (with_reducible repeat (first | apply Kd.S_alloc | apply Kd.S_drewN | apply Kd.S_drew)); exact HO9455877.out) hb); have n5_ := Aside0.mk (Kd.S_below (by (with_reducible repeat (first | apply Kd.S_alloc | apply Kd.S_drewN | apply Kd.S_drew)); exact HO9572939.out) hb); have n6_ := Aside0.mk (Kd.S_below (by (with_reducible repeat (first | apply Kd.S_alloc | apply Kd.S_drewN | apply Kd.S_drew)); exact HO9767654.out) hb); have n7_ := Aside0.mk (Kd.S_below (by (with_reducible repeat (first | apply Kd.S_alloc | apply Kd.S_drewN | apply Kd.S_drew)); exact HO9871881.out) hb); have n8_ := Aside0.mk (blk_below (g := gb9837977) (o := .cells #[.slice A0_0 l0_0.length c0_0, .slice A0_1 l0_1.length c0_1] 56 (0, 0)) (by (with_reducible repeat (first | refine blk_drewN ?_ _ | refine blk_drew ?_ | refine blk_alloc ?_ _)); exact BK9837977.out) hb); have n9_ := Aside0.mk (blk_below (g := gb9804400) (o := .cells #[.slice A1_0 l1_0.length c1_0, .slice A1_1 l1_1.length c1_1] 56 (0, 0)) (by (with_reducible repeat (first | refine blk_drewN ?_ _ | refine blk_drew ?_ | refine blk_alloc ?_ _)); exact BK9804400.out) hb); have n10_ := Aside0.mk (blk_below (g := gb9772540) (o := .cells #[.slice Ao9393009 t242.length co9393009, .slice Ao9227058 t245.length co9227058] 62 (0, 0)) (by (with_reducible repeat (first | refine blk_drewN ?_ _ | refine blk_drew ?_ | refine blk_alloc ?_ _)); exact BK9772540.out) hb); have n11_ := Aside0.mk (below_step (by repeat (first | (with_reducible first | exact HB.out | apply below_alloc | apply pw_below_drewN | apply below_drew1 | refine below_set ?_ GE9837977.out | refine below_set ?_ GE9804400.out | refine below_set ?_ GE9772540.out) | exact HB.out)) hb); have n12_ := Aside0.mk (hbox); have n13_ := Aside0.mk ((by rw [hg]; exact (below_size (by repeat (first | (with_reducible first | exact HB.out | apply below_alloc | apply pw_below_drewN | apply below_drew1 | refine below_set ?_ GE9837977.out | refine below_set ?_ GE9804400.out | refine below_set ?_ GE9772540.out) | exact HB.out))) : w.heap.size ≤ gb9208327)); have n14_ := Aside0.mk ((by rw [hg]; exact (below_size (by repeat (first | (with_reducible first | exact HB.out | apply below_alloc | apply pw_below_drewN | apply below_drew1 | refine below_set ?_ GE9837977.out | refine below_set ?_ GE9804400.out | refine below_set ?_ GE9772540.out) | exact HB.out))) : w.heap.size ≤ gb9208327)); have n15_ := Aside0.mk ((by rw [hg]; exact Nat.ne_of_lt (blk_lt (g := gb9837977) (o := .cells #[.slice A0_0 l0_0.length c0_0, .slice A0_1 l0_1.length c0_1] 56 (0, 0)) (by (with_reducible repeat (first | refine blk_drewN ?_ _ | refine blk_drew ?_ | refine blk_alloc ?_ _)); exact BK9837977.out)) : gb9837977 ≠ gb9208327)); have n16_ := Aside0.mk ((by rw [hg]; exact Nat.ne_of_gt (blk_lt (g := gb9837977) (o := .cells #[.slice A0_0 l0_0.length c0_0, .slice A0_1 l0_1.length c0_1] 56 (0, 0)) (by (with_reducible repeat (first | refine blk_drewN ?_ _ | refine blk_drew ?_ | refine blk_alloc ?_ _)); exact BK9837977.out)) : gb9208327 ≠ gb9837977)); have n17_ := Aside0.mk ((by rw [hg]; exact Nat.ne_of_lt (blk_lt (g := gb9804400) (o := .cells #[.slice A1_0 l1_0.length c1_0, .slice A1_1 l1_1.length c1_1] 56 (0, 0)) (by (with_reducible repeat (first | refine blk_drewN ?_ _ | refine blk_drew ?_ | refine blk_alloc ?_ _)); exact BK9804400.out)) : gb9804400 ≠ gb9208327)); have n18_ := Aside0.mk ((by rw [hg]; exact Nat.ne_of_gt (blk_lt (g := gb9804400) (o := .cells #[.slice A1_0 l1_0.length c1_0, .slice A1_1 l1_1.length c1_1] 56 (0, 0)) (by (with_reducible repeat (first | refine blk_drewN ?_ _ | refine blk_drew ?_ | refine blk_alloc ?_ _)); exact BK9804400.out)) : gb9208327 ≠ gb9804400)); have n19_ := Aside0.mk ((by rw [hg]; exact Nat.ne_of_lt (blk_lt (g := gb9772540) (o := .cells #[.slice Ao9393009 t242.length co9393009, .slice Ao9227058 t245.length co9227058] 62 (0, 0)) (by (with_reducible repeat (first | refine blk_drewN ?_ _ | refine blk_drew ?_ | refine blk_alloc ?_ _)); exact BK9772540.out)) : gb9772540 ≠ gb9208327)); have n20_ := Aside0.mk ((by rw [hg]; exact Nat.ne_of_gt (blk_lt (g := gb9772540) (o := .cells #[.slice Ao9393009 t242.length co9393009, .slice Ao9227058 t245.length co9227058] 62 (0, 0)) (by (with_reducible repeat (first | refine blk_drewN ?_ _ | refine blk_drew ?_ | refine blk_alloc ?_ _)); exact BK9772540.out)) : gb9208327 ≠ gb9772540)); clear HO9369609; clear HO9781806; clear HO9184929; clear HO9916980; clear HO9455877; clear HO9572939; clear HO9767654; clear HO9871881; clear BK9837977; clear BK9804400; clear BK9772540; clear HB; have HO9369609 := n0_; have HO9781806 := n1_; have HO9184929 := n2_; have HO9916980 := n3_; have HO9455877 := n4_; have HO9572939 := n5_; have HO9767654 := n6_; have HO9871881 := n7_; have BK9837977 := n8_; have BK9804400 := n9_; have BK9772540 := n10_; have HB := n11_; have BK9208327 := n12_; have GW9208327 := n13_; have GE9208327 := n14_; have NB225_255 := n15_; have NB255_225 := n16_; have NB226_255 := n17_; have NB255_226 := n18_; have NB248_255 := n19_; have NB255_248 := n20_; clear n0_ n1_ n2_ n3_ n4_ n5_ n6_ n7_ n8_ n9_ n10_ n11_ n12_ n13_ n14_ n15_ n16_ n17_ n18_ n19_ n20_; clear hb hbox hg; obtain ⟨Ao9639668, co9639668, eo9639668⟩ := Kd.S_slice HO9767654.out; subst eo9639668; have hnb9349940 := NB255_225.out; have hnc9349940 := NB225_255.out; have hnb9361947 := NB255_226.out; have hnc9361947 := NB226_255.out; have hnb9648782 := NB255_248.out; have hnc9648782 := NB248_255.out; have hcz9724339_0 : w9019911.cell? ⟨gb9208327, 0, none⟩ = some (.slice none 0 0) := (blk_cell BK9208327.out 0).trans rfl; have hcz9724339_1 : w9019911.cell? ⟨gb9208327, 1, none⟩ = some (.slice none 0 0) := (blk_cell BK9208327.out 1).trans rfl; have hfz9724339_0 := blk_frozen BK9208327.out 0; have hfz9724339_1 := blk_frozen BK9208327.out 1; obtain ⟨Ao9353481, co9353481, eo9353481⟩ := Kd.S_slice HO9871881.out; subst eo9353481; have hcz9655961_0 : w9019911.cell? ⟨gb9772540, 0, none⟩ = some (.slice Ao9393009 t242.length co9393009) := (blk_cell BK9772540.out 0).trans rfl; have hcz9655961_1 : w9019911.cell? ⟨gb9772540, 1, none⟩ = some (.slice Ao9227058 t245.length co9227058) := (blk_cell BK9772540.out 1).trans rfl; have hfz9655961_0 := blk_frozen BK9772540.out 0; have hfz9655961_1 := blk_frozen BK9772540.out 1) | ((with_reducible refine gate_callee (f := 43) rfl ?_); refine goesL_ (some 31) rfl rfl Try.func43 (by kernel_rfl) rfl #[.agg #[.slice Ao9393009 t242.length co9393009, .slice Ao9227058 t245.length co9227058], .agg #[.slice Ao9639668 t249.length co9639668, .slice Ao9353481 t252.length co9353481]] rfl (by (try simp only [List.map_toArray, List.map_cons, List.map_nil]); first | done | rfl | (simp only [List.length_drop, List.length_take]; rfl)) ?_; (with_reducible refine (impl_SameGraphs.calls k _ _ t242 _ _ t245 _ _ t249 _ _ t252 t256 _ ?side1 ?side2 ?side3 ?side4 ?side5 ?side6 ?side7 ?side8 A24.out).mono ?_); (case side1 => refine (Kd.S_reads' (e := 115) (base := w.heap.size) (ok := fun k_ => (((True ∧ some k_ ≠ (.slice Ao9997294 t229.length co9997294 : Value).ownBlock) ∧ some k_ ≠ (.slice Ao9117442 t235.length co9117442 : Value).ownBlock) ∧ some k_ ≠ (.slice Ao9639668 t249.length co9639668 : Value).ownBlock)) (n := t242.length) (c := co9393009) ?_).2.2; exact (by (with_reducible repeat (first | apply Kd.S_alloc | apply Kd.S_drewN | apply Kd.S_drew)); exact (Kd.S_mono (Kd.S_far (p := ⟨gb9208327, 1, none⟩) (Kd.S_far (p := ⟨gb9208327, 0, none⟩) (Kd.S_types HO9455877.out BK9208327.out (by decide)) (fun _ hk => hk.2) (.slice Ao9639668 t249.length co9639668)) (fun _ hk => hk.2) (.slice Ao9353481 t252.length co9353481)) (fun _ h_ => h_.1)))); (case side2 => exact (Kd.S_reads' HO9455877.out).2.1); (case side3 => refine (Kd.S_reads' (e := 119) (base := w.heap.size) (ok := fun k_ => (((True ∧ some k_ ≠ (.slice Ao9191956 t232.length co9191956 : Value).ownBlock) ∧ some k_ ≠ (.slice Ao9533492 t238.length co9533492 : Value).ownBlock) ∧ some k_ ≠ (.slice Ao9353481 t252.length co9353481 : Value).ownBlock)) (n := t245.length) (c := co9227058) ?_).2.2; exact (by (with_reducible repeat (first | apply Kd.S_alloc | apply Kd.S_drewN | apply Kd.S_drew)); exact (Kd.S_mono (Kd.S_far (p := ⟨gb9208327, 1, none⟩) (Kd.S_far (p := ⟨gb9208327, 0, none⟩) (Kd.S_types HO9572939.out BK9208327.out (by decide)) (fun _ hk => hk.2) (.slice Ao9639668 t249.length co9639668)) (fun _ hk => hk.2) (.slice Ao9353481 t252.length co9353481)) (fun _ h_ => h_.1)))); (case side4 => exact (Kd.S_reads' HO9572939.out).2.1); (case side5 => refine (Kd.S_reads' (e := 115) (base := w.heap.size) (ok := fun k_ => (((True ∧ some k_ ≠ (.slice Ao9997294 t229.length co9997294 : Value).ownBlock) ∧ some k_ ≠ (.slice Ao9117442 t235.length co9117442 : Value).ownBlock) ∧ some k_ ≠ (.slice Ao9393009 t242.length co9393009 : Value).ownBlock)) (n := t249.length) (c := co9639668) ?_).2.2; exact (by (with_reducible repeat (first | apply Kd.S_alloc | apply Kd.S_drewN | apply Kd.S_drew)); exact (Kd.S_mono (Kd.S_far (p := ⟨gb9208327, 1, none⟩) (Kd.S_far (p := ⟨gb9208327, 0, none⟩) (Kd.S_types HO9767654.out BK9208327.out (by decide)) (fun _ hk => hk.2) (.slice Ao9639668 t249.length co9639668)) (fun _ hk => hk.2) (.slice Ao9353481 t252.length co9353481)) (fun _ h_ => h_.1)))); (case side6 => exact (Kd.S_reads' HO9767654.out).2.1); (case side7 => refine (Kd.S_reads' (e := 119) (base := w.heap.size) (ok := fun k_ => (((True ∧ some k_ ≠ (.slice Ao9191956 t232.length co9191956 : Value).ownBlock) ∧ some k_ ≠ (.slice Ao9533492 t238.length co9533492 : Value).ownBlock) ∧ some k_ ≠ (.slice Ao9227058 t245.length co9227058 : Value).ownBlock)) (n := t252.length) (c := co9353481) ?_).2.2; exact (by (with_reducible repeat (first | apply Kd.S_alloc | apply Kd.S_drewN | apply Kd.S_drew)); exact (Kd.S_mono (Kd.S_far (p := ⟨gb9208327, 1, none⟩) (Kd.S_far (p := ⟨gb9208327, 0, none⟩) (Kd.S_types HO9871881.out BK9208327.out (by decide)) (fun _ hk => hk.2) (.slice Ao9639668 t249.length co9639668)) (fun _ hk => hk.2) (.slice Ao9353481 t252.length co9353481)) (fun _ h_ => h_.1)))); (case side8 => exact (Kd.S_reads' HO9871881.out).2.1); rintro e w9705571 ⟨rfl, hb⟩; refine ⟨_, rfl, ?_⟩; have n0_ := Aside0.mk (Kd.S_below (by (with_reducible repeat (first | apply Kd.S_alloc | apply Kd.S_drewN | apply Kd.S_drew)); exact (Kd.S_mono (Kd.S_far (p := ⟨gb9208327, 1, none⟩) (Kd.S_far (p := ⟨gb9208327, 0, none⟩) (Kd.S_types HO9369609.out BK9208327.out (by decide)) (fun _ hk => hk.2) (.slice Ao9639668 t249.length co9639668)) (fun _ hk => hk.2) (.slice Ao9353481 t252.length co9353481)) (fun _ h_ => h_.1))) hb); have n1_ := Aside0.mk (Kd.S_below (by (with_reducible repeat (first | apply Kd.S_alloc | apply Kd.S_drewN | apply Kd.S_drew)); exact (Kd.S_mono (Kd.S_far (p := ⟨gb9208327, 1, none⟩) (Kd.S_far (p := ⟨gb9208327, 0, none⟩) (Kd.S_types HO9781806.out BK9208327.out (by decide)) (fun _ hk => hk.2) (.slice Ao9639668 t249.length co9639668)) (fun _ hk => hk.2) (.slice Ao9353481 t252.length co9353481)) (fun _ h_ => h_.1))) hb); have n2_ := Aside0.mk (Kd.S_below (by (with_reducible repeat (first | apply Kd.S_alloc | apply Kd.S_drewN | apply Kd.S_drew)); exact (Kd.S_mono (Kd.S_far (p := ⟨gb9208327, 1, none⟩) (Kd.S_far (p := ⟨gb9208327, 0, none⟩) (Kd.S_types HO9184929.out BK9208327.out (by decide)) (fun _ hk => hk.2) (.slice Ao9639668 t249.length co9639668)) (fun _ hk => hk.2) (.slice Ao9353481 t252.length co9353481)) (fun _ h_ => h_.1))) hb); have n3_ := Aside0.mk (Kd.S_below (by (with_reducible repeat (first | apply Kd.S_alloc | apply Kd.S_drewN | apply Kd.S_drew)); exact (Kd.S_mono (Kd.S_far (p := ⟨gb9208327, 1, none⟩) (Kd.S_far (p := ⟨gb9208327, 0, none⟩) (Kd.S_types HO9916980.out BK9208327.out (by decide)) (fun _ hk => hk.2) (.slice Ao9639668 t249.length co9639668)) (fun _ hk => hk.2) (.slice Ao9353481 t252.length co9353481)) (fun _ h_ => h_.1))) hb); have n4_ := Aside0.mk (Kd.S_below (by (with_reducible repeat (first | apply Kd.S_alloc | apply Kd.S_drewN | apply Kd.S_drew)); exact (Kd.S_mono (Kd.S_far (p := ⟨gb9208327, 1, none⟩) (Kd.S_far (p := ⟨gb9208327, 0, none⟩) (Kd.S_types HO9455877.out BK9208327.out (by decide)) (fun _ hk => hk.2) (.slice Ao9639668 t249.length co9639668)) (fun _ hk => hk.2) (.slice Ao9353481 t252.length co9353481)) (fun _ h_ => h_.1))) hb); have n5_ := Aside0.mk (Kd.S_below (by (with_reducible repeat (first | apply Kd.S_alloc | apply Kd.S_drewN | apply Kd.S_drew)); exact (Kd.S_mono (Kd.S_far (p := ⟨gb9208327, 1, none⟩) (Kd.S_far (p := ⟨gb9208327, 0, none⟩) (Kd.S_types HO9572939.out BK9208327.out (by decide)) (fun _ hk => hk.2) (.slice Ao9639668 t249.length co9639668)) (fun _ hk => hk.2) (.slice Ao9353481 t252.length co9353481)) (fun _ h_ => h_.1))) hb); have n6_ := Aside0.mk (Kd.S_below (by (with_reducible repeat (first | apply Kd.S_alloc | apply Kd.S_drewN | apply Kd.S_drew)); exact (Kd.S_mono (Kd.S_far (p := ⟨gb9208327, 1, none⟩) (Kd.S_far (p := ⟨gb9208327, 0, none⟩) (Kd.S_types HO9767654.out BK9208327.out (by decide)) (fun _ hk => hk.2) (.slice Ao9639668 t249.length co9639668)) (fun _ hk => hk.2) (.slice Ao9353481 t252.length co9353481)) (fun _ h_ => h_.1))) hb); have n7_ := Aside0.mk (Kd.S_below (by (with_reducible repeat (first | apply Kd.S_alloc | apply Kd.S_drewN | apply Kd.S_drew)); exact (Kd.S_mono (Kd.S_far (p := ⟨gb9208327, 1, none⟩) (Kd.S_far (p := ⟨gb9208327, 0, none⟩) (Kd.S_types HO9871881.out BK9208327.out (by decide)) (fun _ hk => hk.2) (.slice Ao9639668 t249.length co9639668)) (fun _ hk => hk.2) (.slice Ao9353481 t252.length co9353481)) (fun _ h_ => h_.1))) hb); have n8_ := Aside0.mk (blk_below (g := gb9837977) (o := .cells #[.slice A0_0 l0_0.length c0_0, .slice A0_1 l0_1.length c0_1] 56 (0, 0)) (by (with_reducible repeat (first | refine blk_drewN ?_ _ | refine blk_drew ?_ | refine blk_alloc ?_ _)); refine blk_far ?_ NB225_255.out _; (with_reducible repeat (first | refine blk_drewN ?_ _ | refine blk_drew ?_ | refine blk_alloc ?_ _)); refine blk_far ?_ NB225_255.out _; (with_reducible repeat (first | refine blk_drewN ?_ _ | refine blk_drew ?_ | refine blk_alloc ?_ _)); exact BK9837977.out) hb); have n9_ := Aside0.mk (blk_below (g := gb9804400) (o := .cells #[.slice A1_0 l1_0.length c1_0, .slice A1_1 l1_1.length c1_1] 56 (0, 0)) (by (with_reducible repeat (first | refine blk_drewN ?_ _ | refine blk_drew ?_ | refine blk_alloc ?_ _)); refine blk_far ?_ NB226_255.out _; (with_reducible repeat (first | refine blk_drewN ?_ _ | refine blk_drew ?_ | refine blk_alloc ?_ _)); refine blk_far ?_ NB226_255.out _; (with_reducible repeat (first | refine blk_drewN ?_ _ | refine blk_drew ?_ | refine blk_alloc ?_ _)); exact BK9804400.out) hb); have n10_ := Aside0.mk (blk_below (g := gb9772540) (o := .cells #[.slice Ao9393009 t242.length co9393009, .slice Ao9227058 t245.length co9227058] 62 (0, 0)) (by (with_reducible repeat (first | refine blk_drewN ?_ _ | refine blk_drew ?_ | refine blk_alloc ?_ _)); refine blk_far ?_ NB248_255.out _; (with_reducible repeat (first | refine blk_drewN ?_ _ | refine blk_drew ?_ | refine blk_alloc ?_ _)); refine blk_far ?_ NB248_255.out _; (with_reducible repeat (first | refine blk_drewN ?_ _ | refine blk_drew ?_ | refine blk_alloc ?_ _)); exact BK9772540.out) hb); have n11_ := Aside0.mk (blk_below (g := gb9208327) (o := .cells #[.slice Ao9639668 t249.length co9639668, .slice Ao9353481 t252.length co9353481] 62 (0, 0)) (by (with_reducible repeat (first | refine blk_drewN ?_ _ | refine blk_drew ?_ | refine blk_alloc ?_ _)); refine blk_put (cs := #[.slice Ao9639668 t249.length co9639668, .slice none 0 0]) ?_ 1 _ rfl; (with_reducible repeat (first | refine blk_drewN ?_ _ | refine blk_drew ?_ | refine blk_alloc ?_ _)); refine blk_put (cs := #[.slice none 0 0, .slice none 0 0]) ?_ 0 _ rfl; (with_reducible repeat (first | refine blk_drewN ?_ _ | refine blk_drew ?_ | refine blk_alloc ?_ _)); exact BK9208327.out) hb); have n12_ := Aside0.mk (below_step (by repeat (first | (with_reducible first | exact HB.out | apply below_alloc | apply pw_below_drewN | apply below_drew1 | refine below_set ?_ GE9837977.out | refine below_set ?_ GE9804400.out | refine below_set ?_ GE9772540.out | refine below_set ?_ GE9208327.out) | exact HB.out)) hb); clear HO9369609; clear HO9781806; clear HO9184929; clear HO9916980; clear HO9455877; clear HO9572939; clear HO9767654; clear HO9871881; clear BK9837977; clear BK9804400; clear BK9772540; clear BK9208327; clear HB; have HO9369609 := n0_; have HO9781806 := n1_; have HO9184929 := n2_; have HO9916980 := n3_; have HO9455877 := n4_; have HO9572939 := n5_; have HO9767654 := n6_; have HO9871881 := n7_; have BK9837977 := n8_; have BK9804400 := n9_; have BK9772540 := n10_; have BK9208327 := n11_; have HB := n12_; clear n0_ n1_ n2_ n3_ n4_ n5_ n6_ n7_ n8_ n9_ n10_ n11_ n12_; (try clear hb); (try clear hb9914667); (try clear hk); (try clear hi))))
  focus (
    go_ret
    exact ⟨by first | rfl | (simp [errW_none, errW_some] <;> rfl) | (simp [*, errW_none, errW_some] <;> rfl), by repeat (first | (with_reducible first | exact HB.out | apply below_alloc | apply pw_below_drewN | apply below_drew1 | refine below_set ?_ GE9837977.out | refine below_set ?_ GE9804400.out | refine below_set ?_ GE9772540.out | refine below_set ?_ GE9208327.out) | exact HB.out)⟩)
  rotate_left
  rotate_left
  rotate_left
  all_goals (
    have n0_ := Aside0.mk (Kd.S_drew HO9369609.out)
    have n1_ := Aside0.mk (Kd.S_drew HO9781806.out)
    have n2_ := Aside0.mk (Kd.S_drew HO9184929.out)
    have n3_ := Aside0.mk (Kd.S_drew HO9916980.out)
    have n4_ := Aside0.mk (Kd.S_drew HO9455877.out)
    have n5_ := Aside0.mk (Kd.S_drew HO9572939.out)
    have n6_ := Aside0.mk (Kd.S_drew HO9767654.out)
    have n7_ := Aside0.mk (Kd.S_drew HO9871881.out)
    have n8_ := Aside0.mk (blk_drew BK9837977.out)
    have n9_ := Aside0.mk (blk_drew BK9804400.out)
    have n10_ := Aside0.mk (blk_drew BK9772540.out)
    have n11_ := Aside0.mk (blk_drew BK9208327.out)
    have n12_ := Aside0.mk (below_drew1 HB.out)
    clear HO9369609
    clear HO9781806
    clear HO9184929
    clear HO9916980
    clear HO9455877
    clear HO9572939
    clear HO9767654
    clear HO9871881
    clear BK9837977
    clear BK9804400
    clear BK9772540
    clear BK9208327
    clear HB
    have HO9369609 := n0_
    have HO9781806 := n1_
    have HO9184929 := n2_
    have HO9916980 := n3_
    have HO9455877 := n4_
    have HO9572939 := n5_
    have HO9767654 := n6_
    have HO9871881 := n7_
    have BK9837977 := n8_
    have BK9804400 := n9_
    have BK9772540 := n10_
    have BK9208327 := n11_
    have HB := n12_
    clear n0_ n1_ n2_ n3_ n4_ n5_ n6_ n7_ n8_ n9_ n10_ n11_ n12_
    refine start_ (n := 5) (S := fun w' => w'.cell? ⟨gb9772540, 0, none⟩ = some (.slice Ao9393009 t242.length co9393009) ∧ w'.cell? ⟨gb9772540, 1, none⟩ = some (.slice Ao9227058 t245.length co9227058) ∧ w'.cell? ⟨gb9837977, 0, none⟩ = some (.slice A0_0 l0_0.length c0_0) ∧ w'.cell? ⟨gb9837977, 1, none⟩ = some (.slice A0_1 l0_1.length c0_1)) (ds := []) #[false, false, false, false, false] (by kernel_rfl) rfl rfl ⟨(blk_cell BK9772540.out 0).trans rfl, (blk_cell BK9772540.out 1).trans rfl, (blk_cell BK9837977.out 0).trans rfl, (blk_cell BK9837977.out 1).trans rfl⟩ (fun hHeld => ?_)
    generalize w9705571.drew = w9925611 at HO9369609 HO9781806 HO9184929 HO9916980 HO9455877 HO9572939 HO9767654 HO9871881 BK9837977 BK9804400 BK9772540 BK9208327 HB hHeld ⊢
    refine take_ (i := 0) (N := some 35) (v := ?_) (a' := ?_) #[true, false, false, false, false] rfl rfl (by kernel_rfl) (fun _ _ _ h => h) (Or.inl ⟨by rfl, ?_⟩) hHeld ?_ ?_
    rotate_left
    · rintro w' ⟨s0, s1, s2, s3⟩
      go_simp
      with_reducible rfl
    rotate_left
    · simp only [Act.put, List.setIfInBounds_toArray, List.set_cons_zero, List.set_cons_succ, i64_w, i32_w]
      rfl
    refine take_ (i := 1) (N := some 36) (v := ?_) (a' := ?_) #[true, true, false, false, false] rfl rfl (by kernel_rfl) (fun _ _ _ h => h) (Or.inl ⟨by rfl, ?_⟩) hHeld ?_ ?_
    rotate_left
    · rintro w' ⟨s0, s1, s2, s3⟩
      go_simp
      with_reducible rfl
    rotate_left
    · simp only [Act.put, List.setIfInBounds_toArray, List.set_cons_zero, List.set_cons_succ, i64_w, i32_w]
      rfl
    refine one_ (i := 2) (N := some 37) #[true, true, true, false, false] rfl rfl (by kernel_rfl) (by decide) (fun K hK => ?_)
    refine goes_ Try.func42 (by kernel_rfl) rfl #[.agg #[.slice A0_0 l0_0.length c0_0, .slice A0_1 l0_1.length c0_1]] (by rfl) rfl rfl (by (try simp only [List.map_toArray, List.map_cons, List.map_nil]); first | done | rfl | (simp only [List.length_drop, List.length_take]; rfl)) ?_
    with_reducible refine (laws_toGraph.calls k _ _ l0_0 _ _ l0_1 t257 t260 _ ?side1 ?side2 ?side3 ?side4 A60.out).mono ?_
    (case side1 => repeat (first | exact (Kd.C_below HR0_0.out HB.out) | (with_reducible refine Kd.C_alloc ?_ _) | (with_reducible refine Kd.C_drewN ?_ _) | (with_reducible refine Kd.C_drew ?_)))
    (case side2 => exact HC0_0.out)
    (case side3 => repeat (first | exact (Kd.C_below HR0_1.out HB.out) | (with_reducible refine Kd.C_alloc ?_ _) | (with_reducible refine Kd.C_drewN ?_ _) | (with_reducible refine Kd.C_drew ?_)))
    (case side4 => exact HC0_1.out)
    rintro e w9847310 ⟨v9775336, v9429473, rfl, ho0, ho1, hb⟩
    refine ⟨_, rfl, ?_⟩
    have n0_ := Aside0.mk (Kd.S_elder' (by (with_reducible repeat (first | apply Kd.S_alloc | apply Kd.S_drewN | apply Kd.S_drew)); exact HO9369609.out) (Kd.S_base ho0) hb)
    have n1_ := Aside0.mk (Kd.S_elder' (by (with_reducible repeat (first | apply Kd.S_alloc | apply Kd.S_drewN | apply Kd.S_drew)); exact HO9781806.out) (Kd.S_base ho1) hb)
    have n2_ := Aside0.mk (Kd.S_elder' (by (with_reducible repeat (first | apply Kd.S_alloc | apply Kd.S_drewN | apply Kd.S_drew)); exact HO9184929.out) (Kd.S_base ho0) hb)
    have n3_ := Aside0.mk (Kd.S_elder' (by (with_reducible repeat (first | apply Kd.S_alloc | apply Kd.S_drewN | apply Kd.S_drew)); exact HO9916980.out) (Kd.S_base ho1) hb)
    have n4_ := Aside0.mk (Kd.S_elder' (by (with_reducible repeat (first | apply Kd.S_alloc | apply Kd.S_drewN | apply Kd.S_drew)); exact HO9455877.out) (Kd.S_base ho0) hb)
    have n5_ := Aside0.mk (Kd.S_elder' (by (with_reducible repeat (first | apply Kd.S_alloc | apply Kd.S_drewN | apply Kd.S_drew)); exact HO9572939.out) (Kd.S_base ho1) hb)
    have n6_ := Aside0.mk (Kd.S_elder' (by (with_reducible repeat (first | apply Kd.S_alloc | apply Kd.S_drewN | apply Kd.S_drew)); exact HO9767654.out) (Kd.S_base ho0) hb)
    have n7_ := Aside0.mk (Kd.S_elder' (by (with_reducible repeat (first | apply Kd.S_alloc | apply Kd.S_drewN | apply Kd.S_drew)); exact HO9871881.out) (Kd.S_base ho1) hb)
    have n8_ := Aside0.mk (Kd.S_lower (Kd.S_new' (Kd.S_new' (Kd.S_new' (Kd.S_new' ho0 (Kd.S_lt (by (with_reducible repeat (first | apply Kd.S_alloc | apply Kd.S_drewN | apply Kd.S_drew)); exact HO9369609.out))) (Kd.S_lt (by (with_reducible repeat (first | apply Kd.S_alloc | apply Kd.S_drewN | apply Kd.S_drew)); exact HO9184929.out))) (Kd.S_lt (by (with_reducible repeat (first | apply Kd.S_alloc | apply Kd.S_drewN | apply Kd.S_drew)); exact HO9455877.out))) (Kd.S_lt (by (with_reducible repeat (first | apply Kd.S_alloc | apply Kd.S_drewN | apply Kd.S_drew)); exact HO9767654.out))) (below_size (by repeat (first | (with_reducible first | exact HB.out | apply below_alloc | apply pw_below_drewN | apply below_drew1 | refine below_set ?_ GE9837977.out | refine below_set ?_ GE9804400.out | refine below_set ?_ GE9772540.out | refine below_set ?_ GE9208327.out) | exact HB.out))))
    have n9_ := Aside0.mk (Kd.S_lower (Kd.S_new' (Kd.S_new' (Kd.S_new' (Kd.S_new' ho1 (Kd.S_lt (by (with_reducible repeat (first | apply Kd.S_alloc | apply Kd.S_drewN | apply Kd.S_drew)); exact HO9781806.out))) (Kd.S_lt (by (with_reducible repeat (first | apply Kd.S_alloc | apply Kd.S_drewN | apply Kd.S_drew)); exact HO9916980.out))) (Kd.S_lt (by (with_reducible repeat (first | apply Kd.S_alloc | apply Kd.S_drewN | apply Kd.S_drew)); exact HO9572939.out))) (Kd.S_lt (by (with_reducible repeat (first | apply Kd.S_alloc | apply Kd.S_drewN | apply Kd.S_drew)); exact HO9871881.out))) (below_size (by repeat (first | (with_reducible first | exact HB.out | apply below_alloc | apply pw_below_drewN | apply below_drew1 | refine below_set ?_ GE9837977.out | refine below_set ?_ GE9804400.out | refine below_set ?_ GE9772540.out | refine below_set ?_ GE9208327.out) | exact HB.out))))
    have n10_ := Aside0.mk (blk_below (g := gb9837977) (o := .cells #[.slice A0_0 l0_0.length c0_0, .slice A0_1 l0_1.length c0_1] 56 (0, 0)) (by (with_reducible repeat (first | refine blk_drewN ?_ _ | refine blk_drew ?_ | refine blk_alloc ?_ _)); exact BK9837977.out) hb)
    have n11_ := Aside0.mk (blk_below (g := gb9804400) (o := .cells #[.slice A1_0 l1_0.length c1_0, .slice A1_1 l1_1.length c1_1] 56 (0, 0)) (by (with_reducible repeat (first | refine blk_drewN ?_ _ | refine blk_drew ?_ | refine blk_alloc ?_ _)); exact BK9804400.out) hb)
    have n12_ := Aside0.mk (blk_below (g := gb9772540) (o := .cells #[.slice Ao9393009 t242.length co9393009, .slice Ao9227058 t245.length co9227058] 62 (0, 0)) (by (with_reducible repeat (first | refine blk_drewN ?_ _ | refine blk_drew ?_ | refine blk_alloc ?_ _)); exact BK9772540.out) hb)
    have n13_ := Aside0.mk (blk_below (g := gb9208327) (o := .cells #[.slice Ao9639668 t249.length co9639668, .slice Ao9353481 t252.length co9353481] 62 (0, 0)) (by (with_reducible repeat (first | refine blk_drewN ?_ _ | refine blk_drew ?_ | refine blk_alloc ?_ _)); exact BK9208327.out) hb)
    have n14_ := Aside0.mk (below_step (by repeat (first | (with_reducible first | exact HB.out | apply below_alloc | apply pw_below_drewN | apply below_drew1 | refine below_set ?_ GE9837977.out | refine below_set ?_ GE9804400.out | refine below_set ?_ GE9772540.out | refine below_set ?_ GE9208327.out) | exact HB.out)) hb)
    clear HO9369609
    clear HO9781806
    clear HO9184929
    clear HO9916980
    clear HO9455877
    clear HO9572939
    clear HO9767654
    clear HO9871881
    clear BK9837977
    clear BK9804400
    clear BK9772540
    clear BK9208327
    clear HB
    have HO9369609 := n0_
    have HO9781806 := n1_
    have HO9184929 := n2_
    have HO9916980 := n3_
    have HO9455877 := n4_
    have HO9572939 := n5_
    have HO9767654 := n6_
    have HO9871881 := n7_
    have HO9551685 := n8_
    have HO9174882 := n9_
    have BK9837977 := n10_
    have BK9804400 := n11_
    have BK9772540 := n12_
    have BK9208327 := n13_
    have HB := n14_
    clear n0_ n1_ n2_ n3_ n4_ n5_ n6_ n7_ n8_ n9_ n10_ n11_ n12_ n13_ n14_
    (try clear hb)
    (try clear hb9914667)
    (try clear hk)
    (try clear hi)
    (try clear ho0)
    (try clear ho1)
    obtain ⟨Ao9839674, co9839674, eo9839674⟩ := Kd.S_slice HO9551685.out
    (first | subst eo9839674 | (injection eo9839674 with f1_ f2_ f3_; have f4_ := f1_.symm; have f5_ := f3_.symm; clear f1_ f2_ f3_; subst f4_; subst f5_))
    obtain ⟨Ao9995172, co9995172, eo9995172⟩ := Kd.S_slice HO9174882.out
    (first | subst eo9995172 | (injection eo9995172 with f1_ f2_ f3_; have f4_ := f1_.symm; have f5_ := f3_.symm; clear f1_ f2_ f3_; subst f4_; subst f5_))
    refine hK.out _ _ ⟨(blk_cell BK9772540.out 0).trans rfl, (blk_cell BK9772540.out 1).trans rfl, (blk_cell BK9837977.out 0).trans rfl, (blk_cell BK9837977.out 1).trans rfl⟩ (fun hHeld => ?_)
    clear hK K
    refine norm_ (a' := ?_) ?_ ?_
    rotate_left
    · show Act.put _ (some 37) _ = _
      simp only [Act.put, List.setIfInBounds_toArray, List.set_cons_zero, List.set_cons_succ, i64_w, i32_w]
      rfl
    refine one_ (i := 3) (N := some 38) #[true, true, true, true, false] rfl rfl (by kernel_rfl) (by decide) (fun K hK => ?_)
    refine goes_ Try.func44 (by kernel_rfl) rfl #[.agg #[.slice Ao9393009 t242.length co9393009, .slice Ao9227058 t245.length co9227058], .agg #[.slice Ao9839674 t257.length co9839674, .slice Ao9995172 t260.length co9995172]] (by rfl) rfl rfl (by (try simp only [List.map_toArray, List.map_cons, List.map_nil]); first | done | rfl | (simp only [List.length_drop, List.length_take]; rfl)) ?_
    with_reducible refine (laws_eqGraph.calls k _ _ t242 _ _ t245 _ _ t257 _ _ t260 _ _ ?side1 ?side2 ?side3 ?side4 ?side5 ?side6 ?side7 ?side8 A61.out).mono ?_
    (case side1 => repeat (first | exact (Kd.S_reads' HO9455877.out).2.2 | (with_reducible refine Kd.C_alloc ?_ _) | (with_reducible refine Kd.C_drewN ?_ _) | (with_reducible refine Kd.C_drew ?_)))
    (case side2 => exact (Kd.S_reads' HO9455877.out).2.1)
    (case side3 => repeat (first | exact (Kd.S_reads' HO9572939.out).2.2 | (with_reducible refine Kd.C_alloc ?_ _) | (with_reducible refine Kd.C_drewN ?_ _) | (with_reducible refine Kd.C_drew ?_)))
    (case side4 => exact (Kd.S_reads' HO9572939.out).2.1)
    (case side5 => repeat (first | exact (Kd.S_reads' HO9551685.out).2.2 | (with_reducible refine Kd.C_alloc ?_ _) | (with_reducible refine Kd.C_drewN ?_ _) | (with_reducible refine Kd.C_drew ?_)))
    (case side6 => exact (Kd.S_reads' HO9551685.out).2.1)
    (case side7 => repeat (first | exact (Kd.S_reads' HO9174882.out).2.2 | (with_reducible refine Kd.C_alloc ?_ _) | (with_reducible refine Kd.C_drewN ?_ _) | (with_reducible refine Kd.C_drew ?_)))
    (case side8 => exact (Kd.S_reads' HO9174882.out).2.1)
    rintro e w9031169 ⟨rfl, hb⟩
    refine ⟨_, rfl, ?_⟩
    have n0_ := Aside0.mk (Kd.S_below (by (with_reducible repeat (first | apply Kd.S_alloc | apply Kd.S_drewN | apply Kd.S_drew)); exact HO9369609.out) hb)
    have n1_ := Aside0.mk (Kd.S_below (by (with_reducible repeat (first | apply Kd.S_alloc | apply Kd.S_drewN | apply Kd.S_drew)); exact HO9781806.out) hb)
    have n2_ := Aside0.mk (Kd.S_below (by (with_reducible repeat (first | apply Kd.S_alloc | apply Kd.S_drewN | apply Kd.S_drew)); exact HO9184929.out) hb)
    have n3_ := Aside0.mk (Kd.S_below (by (with_reducible repeat (first | apply Kd.S_alloc | apply Kd.S_drewN | apply Kd.S_drew)); exact HO9916980.out) hb)
    have n4_ := Aside0.mk (Kd.S_below (by (with_reducible repeat (first | apply Kd.S_alloc | apply Kd.S_drewN | apply Kd.S_drew)); exact HO9455877.out) hb)
    have n5_ := Aside0.mk (Kd.S_below (by (with_reducible repeat (first | apply Kd.S_alloc | apply Kd.S_drewN | apply Kd.S_drew)); exact HO9572939.out) hb)
    have n6_ := Aside0.mk (Kd.S_below (by (with_reducible repeat (first | apply Kd.S_alloc | apply Kd.S_drewN | apply Kd.S_drew)); exact HO9767654.out) hb)
    have n7_ := Aside0.mk (Kd.S_below (by (with_reducible repeat (first | apply Kd.S_alloc | apply Kd.S_drewN | apply Kd.S_drew)); exact HO9871881.out) hb)
    have n8_ := Aside0.mk (Kd.S_below (by (with_reducible repeat (first | apply Kd.S_alloc | apply Kd.S_drewN | apply Kd.S_drew)); exact HO9551685.out) hb)
    have n9_ := Aside0.mk (Kd.S_below (by (with_reducible repeat (first | apply Kd.S_alloc | apply Kd.S_drewN | apply Kd.S_drew)); exact HO9174882.out) hb)
    have n10_ := Aside0.mk (blk_below (g := gb9837977) (o := .cells #[.slice A0_0 l0_0.length c0_0, .slice A0_1 l0_1.length c0_1] 56 (0, 0)) (by (with_reducible repeat (first | refine blk_drewN ?_ _ | refine blk_drew ?_ | refine blk_alloc ?_ _)); exact BK9837977.out) hb)
    have n11_ := Aside0.mk (blk_below (g := gb9804400) (o := .cells #[.slice A1_0 l1_0.length c1_0, .slice A1_1 l1_1.length c1_1] 56 (0, 0)) (by (with_reducible repeat (first | refine blk_drewN ?_ _ | refine blk_drew ?_ | refine blk_alloc ?_ _)); exact BK9804400.out) hb)
    have n12_ := Aside0.mk (blk_below (g := gb9772540) (o := .cells #[.slice Ao9393009 t242.length co9393009, .slice Ao9227058 t245.length co9227058] 62 (0, 0)) (by (with_reducible repeat (first | refine blk_drewN ?_ _ | refine blk_drew ?_ | refine blk_alloc ?_ _)); exact BK9772540.out) hb)
    have n13_ := Aside0.mk (blk_below (g := gb9208327) (o := .cells #[.slice Ao9639668 t249.length co9639668, .slice Ao9353481 t252.length co9353481] 62 (0, 0)) (by (with_reducible repeat (first | refine blk_drewN ?_ _ | refine blk_drew ?_ | refine blk_alloc ?_ _)); exact BK9208327.out) hb)
    have n14_ := Aside0.mk (below_step (by repeat (first | (with_reducible first | exact HB.out | apply below_alloc | apply pw_below_drewN | apply below_drew1 | refine below_set ?_ GE9837977.out | refine below_set ?_ GE9804400.out | refine below_set ?_ GE9772540.out | refine below_set ?_ GE9208327.out) | exact HB.out)) hb)
    clear HO9369609
    clear HO9781806
    clear HO9184929
    clear HO9916980
    clear HO9455877
    clear HO9572939
    clear HO9767654
    clear HO9871881
    clear HO9551685
    clear HO9174882
    clear BK9837977
    clear BK9804400
    clear BK9772540
    clear BK9208327
    clear HB
    have HO9369609 := n0_
    have HO9781806 := n1_
    have HO9184929 := n2_
    have HO9916980 := n3_
    have HO9455877 := n4_
    have HO9572939 := n5_
    have HO9767654 := n6_
    have HO9871881 := n7_
    have HO9551685 := n8_
    have HO9174882 := n9_
    have BK9837977 := n10_
    have BK9804400 := n11_
    have BK9772540 := n12_
    have BK9208327 := n13_
    have HB := n14_
    clear n0_ n1_ n2_ n3_ n4_ n5_ n6_ n7_ n8_ n9_ n10_ n11_ n12_ n13_ n14_
    (try clear hb)
    (try clear hb9914667)
    (try clear hk)
    (try clear hi)
    refine hK.out _ _ ⟨(blk_cell BK9772540.out 0).trans rfl, (blk_cell BK9772540.out 1).trans rfl, (blk_cell BK9837977.out 0).trans rfl, (blk_cell BK9837977.out 1).trans rfl⟩ (fun hHeld => ?_)
    clear hK K
    refine norm_ (a' := ?_) ?_ ?_
    rotate_left
    · show Act.put _ (some 38) _ = _
      simp only [Act.put, List.setIfInBounds_toArray, List.set_cons_zero, List.set_cons_succ, i64_w, i32_w]
      rfl
    refine pure_ (i := 4) (N := some 39) (v := ?_) (a' := ?_) #[true, true, true, true, true] rfl rfl (by kernel_rfl) (fun _ _ _ h => h) (Or.inl ⟨by rfl, ?_⟩) ?_ ?_
    rotate_left
    · intro w'
      go_simp
      with_reducible rfl
    rotate_left
    · simp only [Act.put, List.setIfInBounds_toArray, List.set_cons_zero, List.set_cons_succ, i64_w, i32_w]
      rfl
    refine done_ (by kernel_rfl) ?_
    try go_wp2)
  rotate_left
  rotate_left
  focus (
    go_ret
    exact ⟨by first | rfl | (simp [errW_none, errW_some] <;> rfl) | (simp [*, errW_none, errW_some] <;> rfl), by repeat (first | (with_reducible first | exact HB.out | apply below_alloc | apply pw_below_drewN | apply below_drew1 | refine below_set ?_ GE9837977.out | refine below_set ?_ GE9804400.out | refine below_set ?_ GE9772540.out | refine below_set ?_ GE9208327.out) | exact HB.out)⟩)
  all_goals (
    have n0_ := Aside0.mk (Kd.S_drew HO9369609.out)
    have n1_ := Aside0.mk (Kd.S_drew HO9781806.out)
    have n2_ := Aside0.mk (Kd.S_drew HO9184929.out)
    have n3_ := Aside0.mk (Kd.S_drew HO9916980.out)
    have n4_ := Aside0.mk (Kd.S_drew HO9455877.out)
    have n5_ := Aside0.mk (Kd.S_drew HO9572939.out)
    have n6_ := Aside0.mk (Kd.S_drew HO9767654.out)
    have n7_ := Aside0.mk (Kd.S_drew HO9871881.out)
    have n8_ := Aside0.mk (Kd.S_drew HO9551685.out)
    have n9_ := Aside0.mk (Kd.S_drew HO9174882.out)
    have n10_ := Aside0.mk (blk_drew BK9837977.out)
    have n11_ := Aside0.mk (blk_drew BK9804400.out)
    have n12_ := Aside0.mk (blk_drew BK9772540.out)
    have n13_ := Aside0.mk (blk_drew BK9208327.out)
    have n14_ := Aside0.mk (below_drew1 HB.out)
    clear HO9369609
    clear HO9781806
    clear HO9184929
    clear HO9916980
    clear HO9455877
    clear HO9572939
    clear HO9767654
    clear HO9871881
    clear HO9551685
    clear HO9174882
    clear BK9837977
    clear BK9804400
    clear BK9772540
    clear BK9208327
    clear HB
    have HO9369609 := n0_
    have HO9781806 := n1_
    have HO9184929 := n2_
    have HO9916980 := n3_
    have HO9455877 := n4_
    have HO9572939 := n5_
    have HO9767654 := n6_
    have HO9871881 := n7_
    have HO9551685 := n8_
    have HO9174882 := n9_
    have BK9837977 := n10_
    have BK9804400 := n11_
    have BK9772540 := n12_
    have BK9208327 := n13_
    have HB := n14_
    clear n0_ n1_ n2_ n3_ n4_ n5_ n6_ n7_ n8_ n9_ n10_ n11_ n12_ n13_ n14_
    refine start_ (n := 5) (S := fun w' => w'.cell? ⟨gb9208327, 0, none⟩ = some (.slice Ao9639668 t249.length co9639668) ∧ w'.cell? ⟨gb9208327, 1, none⟩ = some (.slice Ao9353481 t252.length co9353481) ∧ w'.cell? ⟨gb9804400, 0, none⟩ = some (.slice A1_0 l1_0.length c1_0) ∧ w'.cell? ⟨gb9804400, 1, none⟩ = some (.slice A1_1 l1_1.length c1_1)) (ds := []) #[false, false, false, false, false] (by kernel_rfl) rfl rfl ⟨(blk_cell BK9208327.out 0).trans rfl, (blk_cell BK9208327.out 1).trans rfl, (blk_cell BK9804400.out 0).trans rfl, (blk_cell BK9804400.out 1).trans rfl⟩ (fun hHeld => ?_)
    generalize w9031169.drew = w9156236 at HO9369609 HO9781806 HO9184929 HO9916980 HO9455877 HO9572939 HO9767654 HO9871881 HO9551685 HO9174882 BK9837977 BK9804400 BK9772540 BK9208327 HB hHeld ⊢
    refine take_ (i := 0) (N := some 40) (v := ?_) (a' := ?_) #[true, false, false, false, false] rfl rfl (by kernel_rfl) (fun _ _ _ h => h) (Or.inl ⟨by rfl, ?_⟩) hHeld ?_ ?_
    rotate_left
    · rintro w' ⟨s0, s1, s2, s3⟩
      go_simp
      with_reducible rfl
    rotate_left
    · simp only [Act.put, List.setIfInBounds_toArray, List.set_cons_zero, List.set_cons_succ, i64_w, i32_w]
      rfl
    refine take_ (i := 1) (N := some 41) (v := ?_) (a' := ?_) #[true, true, false, false, false] rfl rfl (by kernel_rfl) (fun _ _ _ h => h) (Or.inl ⟨by rfl, ?_⟩) hHeld ?_ ?_
    rotate_left
    · rintro w' ⟨s0, s1, s2, s3⟩
      go_simp
      with_reducible rfl
    rotate_left
    · simp only [Act.put, List.setIfInBounds_toArray, List.set_cons_zero, List.set_cons_succ, i64_w, i32_w]
      rfl
    refine one_ (i := 2) (N := some 42) #[true, true, true, false, false] rfl rfl (by kernel_rfl) (by decide) (fun K hK => ?_)
    refine goes_ Try.func42 (by kernel_rfl) rfl #[.agg #[.slice A1_0 l1_0.length c1_0, .slice A1_1 l1_1.length c1_1]] (by rfl) rfl rfl (by (try simp only [List.map_toArray, List.map_cons, List.map_nil]); first | done | rfl | (simp only [List.length_drop, List.length_take]; rfl)) ?_
    with_reducible refine (laws_toGraph.calls k _ _ l1_0 _ _ l1_1 t264 t267 _ ?side1 ?side2 ?side3 ?side4 A63.out).mono ?_
    (case side1 => repeat (first | exact (Kd.C_below HR1_0.out HB.out) | (with_reducible refine Kd.C_alloc ?_ _) | (with_reducible refine Kd.C_drewN ?_ _) | (with_reducible refine Kd.C_drew ?_)))
    (case side2 => exact HC1_0.out)
    (case side3 => repeat (first | exact (Kd.C_below HR1_1.out HB.out) | (with_reducible refine Kd.C_alloc ?_ _) | (with_reducible refine Kd.C_drewN ?_ _) | (with_reducible refine Kd.C_drew ?_)))
    (case side4 => exact HC1_1.out)
    rintro e w9188473 ⟨v9349849, v9521152, rfl, ho0, ho1, hb⟩
    refine ⟨_, rfl, ?_⟩
    have n0_ := Aside0.mk (Kd.S_elder' (by (with_reducible repeat (first | apply Kd.S_alloc | apply Kd.S_drewN | apply Kd.S_drew)); exact HO9369609.out) (Kd.S_base ho0) hb)
    have n1_ := Aside0.mk (Kd.S_elder' (by (with_reducible repeat (first | apply Kd.S_alloc | apply Kd.S_drewN | apply Kd.S_drew)); exact HO9781806.out) (Kd.S_base ho1) hb)
    have n2_ := Aside0.mk (Kd.S_elder' (by (with_reducible repeat (first | apply Kd.S_alloc | apply Kd.S_drewN | apply Kd.S_drew)); exact HO9184929.out) (Kd.S_base ho0) hb)
    have n3_ := Aside0.mk (Kd.S_elder' (by (with_reducible repeat (first | apply Kd.S_alloc | apply Kd.S_drewN | apply Kd.S_drew)); exact HO9916980.out) (Kd.S_base ho1) hb)
    have n4_ := Aside0.mk (Kd.S_elder' (by (with_reducible repeat (first | apply Kd.S_alloc | apply Kd.S_drewN | apply Kd.S_drew)); exact HO9455877.out) (Kd.S_base ho0) hb)
    have n5_ := Aside0.mk (Kd.S_elder' (by (with_reducible repeat (first | apply Kd.S_alloc | apply Kd.S_drewN | apply Kd.S_drew)); exact HO9572939.out) (Kd.S_base ho1) hb)
    have n6_ := Aside0.mk (Kd.S_elder' (by (with_reducible repeat (first | apply Kd.S_alloc | apply Kd.S_drewN | apply Kd.S_drew)); exact HO9767654.out) (Kd.S_base ho0) hb)
    have n7_ := Aside0.mk (Kd.S_elder' (by (with_reducible repeat (first | apply Kd.S_alloc | apply Kd.S_drewN | apply Kd.S_drew)); exact HO9871881.out) (Kd.S_base ho1) hb)
    have n8_ := Aside0.mk (Kd.S_elder' (by (with_reducible repeat (first | apply Kd.S_alloc | apply Kd.S_drewN | apply Kd.S_drew)); exact HO9551685.out) (Kd.S_base ho0) hb)
    have n9_ := Aside0.mk (Kd.S_elder' (by (with_reducible repeat (first | apply Kd.S_alloc | apply Kd.S_drewN | apply Kd.S_drew)); exact HO9174882.out) (Kd.S_base ho1) hb)
    have n10_ := Aside0.mk (Kd.S_lower (Kd.S_new' (Kd.S_new' (Kd.S_new' (Kd.S_new' (Kd.S_new' ho0 (Kd.S_lt (by (with_reducible repeat (first | apply Kd.S_alloc | apply Kd.S_drewN | apply Kd.S_drew)); exact HO9369609.out))) (Kd.S_lt (by (with_reducible repeat (first | apply Kd.S_alloc | apply Kd.S_drewN | apply Kd.S_drew)); exact HO9184929.out))) (Kd.S_lt (by (with_reducible repeat (first | apply Kd.S_alloc | apply Kd.S_drewN | apply Kd.S_drew)); exact HO9455877.out))) (Kd.S_lt (by (with_reducible repeat (first | apply Kd.S_alloc | apply Kd.S_drewN | apply Kd.S_drew)); exact HO9767654.out))) (Kd.S_lt (by (with_reducible repeat (first | apply Kd.S_alloc | apply Kd.S_drewN | apply Kd.S_drew)); exact HO9551685.out))) (below_size (by repeat (first | (with_reducible first | exact HB.out | apply below_alloc | apply pw_below_drewN | apply below_drew1 | refine below_set ?_ GE9837977.out | refine below_set ?_ GE9804400.out | refine below_set ?_ GE9772540.out | refine below_set ?_ GE9208327.out) | exact HB.out))))
    have n11_ := Aside0.mk (Kd.S_lower (Kd.S_new' (Kd.S_new' (Kd.S_new' (Kd.S_new' (Kd.S_new' ho1 (Kd.S_lt (by (with_reducible repeat (first | apply Kd.S_alloc | apply Kd.S_drewN | apply Kd.S_drew)); exact HO9781806.out))) (Kd.S_lt (by (with_reducible repeat (first | apply Kd.S_alloc | apply Kd.S_drewN | apply Kd.S_drew)); exact HO9916980.out))) (Kd.S_lt (by (with_reducible repeat (first | apply Kd.S_alloc | apply Kd.S_drewN | apply Kd.S_drew)); exact HO9572939.out))) (Kd.S_lt (by (with_reducible repeat (first | apply Kd.S_alloc | apply Kd.S_drewN | apply Kd.S_drew)); exact HO9871881.out))) (Kd.S_lt (by (with_reducible repeat (first | apply Kd.S_alloc | apply Kd.S_drewN | apply Kd.S_drew)); exact HO9174882.out))) (below_size (by repeat (first | (with_reducible first | exact HB.out | apply below_alloc | apply pw_below_drewN | apply below_drew1 | refine below_set ?_ GE9837977.out | refine below_set ?_ GE9804400.out | refine below_set ?_ GE9772540.out | refine below_set ?_ GE9208327.out) | exact HB.out))))
    have n12_ := Aside0.mk (blk_below (g := gb9837977) (o := .cells #[.slice A0_0 l0_0.length c0_0, .slice A0_1 l0_1.length c0_1] 56 (0, 0)) (by (with_reducible repeat (first | refine blk_drewN ?_ _ | refine blk_drew ?_ | refine blk_alloc ?_ _)); exact BK9837977.out) hb)
    have n13_ := Aside0.mk (blk_below (g := gb9804400) (o := .cells #[.slice A1_0 l1_0.length c1_0, .slice A1_1 l1_1.length c1_1] 56 (0, 0)) (by (with_reducible repeat (first | refine blk_drewN ?_ _ | refine blk_drew ?_ | refine blk_alloc ?_ _)); exact BK9804400.out) hb)
    have n14_ := Aside0.mk (blk_below (g := gb9772540) (o := .cells #[.slice Ao9393009 t242.length co9393009, .slice Ao9227058 t245.length co9227058] 62 (0, 0)) (by (with_reducible repeat (first | refine blk_drewN ?_ _ | refine blk_drew ?_ | refine blk_alloc ?_ _)); exact BK9772540.out) hb)
    have n15_ := Aside0.mk (blk_below (g := gb9208327) (o := .cells #[.slice Ao9639668 t249.length co9639668, .slice Ao9353481 t252.length co9353481] 62 (0, 0)) (by (with_reducible repeat (first | refine blk_drewN ?_ _ | refine blk_drew ?_ | refine blk_alloc ?_ _)); exact BK9208327.out) hb)
    have n16_ := Aside0.mk (below_step (by repeat (first | (with_reducible first | exact HB.out | apply below_alloc | apply pw_below_drewN | apply below_drew1 | refine below_set ?_ GE9837977.out | refine below_set ?_ GE9804400.out | refine below_set ?_ GE9772540.out | refine below_set ?_ GE9208327.out) | exact HB.out)) hb)
    clear HO9369609
    clear HO9781806
    clear HO9184929
    clear HO9916980
    clear HO9455877
    clear HO9572939
    clear HO9767654
    clear HO9871881
    clear HO9551685
    clear HO9174882
    clear BK9837977
    clear BK9804400
    clear BK9772540
    clear BK9208327
    clear HB
    have HO9369609 := n0_
    have HO9781806 := n1_
    have HO9184929 := n2_
    have HO9916980 := n3_
    have HO9455877 := n4_
    have HO9572939 := n5_
    have HO9767654 := n6_
    have HO9871881 := n7_
    have HO9551685 := n8_
    have HO9174882 := n9_
    have HO9875417 := n10_
    have HO9359122 := n11_
    have BK9837977 := n12_
    have BK9804400 := n13_
    have BK9772540 := n14_
    have BK9208327 := n15_
    have HB := n16_
    clear n0_ n1_ n2_ n3_ n4_ n5_ n6_ n7_ n8_ n9_ n10_ n11_ n12_ n13_ n14_ n15_ n16_
    (try clear hb)
    (try clear hb9914667)
    (try clear hk)
    (try clear hi)
    (try clear ho0)
    (try clear ho1)
    obtain ⟨Ao9337435, co9337435, eo9337435⟩ := Kd.S_slice HO9875417.out
    (first | subst eo9337435 | (injection eo9337435 with f1_ f2_ f3_; have f4_ := f1_.symm; have f5_ := f3_.symm; clear f1_ f2_ f3_; subst f4_; subst f5_))
    obtain ⟨Ao9212665, co9212665, eo9212665⟩ := Kd.S_slice HO9359122.out
    (first | subst eo9212665 | (injection eo9212665 with f1_ f2_ f3_; have f4_ := f1_.symm; have f5_ := f3_.symm; clear f1_ f2_ f3_; subst f4_; subst f5_))
    refine hK.out _ _ ⟨(blk_cell BK9208327.out 0).trans rfl, (blk_cell BK9208327.out 1).trans rfl, (blk_cell BK9804400.out 0).trans rfl, (blk_cell BK9804400.out 1).trans rfl⟩ (fun hHeld => ?_)
    clear hK K
    refine norm_ (a' := ?_) ?_ ?_
    rotate_left
    · show Act.put _ (some 42) _ = _
      simp only [Act.put, List.setIfInBounds_toArray, List.set_cons_zero, List.set_cons_succ, i64_w, i32_w]
      rfl
    refine one_ (i := 3) (N := some 43) #[true, true, true, true, false] rfl rfl (by kernel_rfl) (by decide) (fun K hK => ?_)
    refine goes_ Try.func44 (by kernel_rfl) rfl #[.agg #[.slice Ao9639668 t249.length co9639668, .slice Ao9353481 t252.length co9353481], .agg #[.slice Ao9337435 t264.length co9337435, .slice Ao9212665 t267.length co9212665]] (by rfl) rfl rfl (by (try simp only [List.map_toArray, List.map_cons, List.map_nil]); first | done | rfl | (simp only [List.length_drop, List.length_take]; rfl)) ?_
    with_reducible refine (laws_eqGraph.calls k _ _ t249 _ _ t252 _ _ t264 _ _ t267 _ _ ?side1 ?side2 ?side3 ?side4 ?side5 ?side6 ?side7 ?side8 A64.out).mono ?_
    (case side1 => repeat (first | exact (Kd.S_reads' HO9767654.out).2.2 | (with_reducible refine Kd.C_alloc ?_ _) | (with_reducible refine Kd.C_drewN ?_ _) | (with_reducible refine Kd.C_drew ?_)))
    (case side2 => exact (Kd.S_reads' HO9767654.out).2.1)
    (case side3 => repeat (first | exact (Kd.S_reads' HO9871881.out).2.2 | (with_reducible refine Kd.C_alloc ?_ _) | (with_reducible refine Kd.C_drewN ?_ _) | (with_reducible refine Kd.C_drew ?_)))
    (case side4 => exact (Kd.S_reads' HO9871881.out).2.1)
    (case side5 => repeat (first | exact (Kd.S_reads' HO9875417.out).2.2 | (with_reducible refine Kd.C_alloc ?_ _) | (with_reducible refine Kd.C_drewN ?_ _) | (with_reducible refine Kd.C_drew ?_)))
    (case side6 => exact (Kd.S_reads' HO9875417.out).2.1)
    (case side7 => repeat (first | exact (Kd.S_reads' HO9359122.out).2.2 | (with_reducible refine Kd.C_alloc ?_ _) | (with_reducible refine Kd.C_drewN ?_ _) | (with_reducible refine Kd.C_drew ?_)))
    (case side8 => exact (Kd.S_reads' HO9359122.out).2.1)
    rintro e w9939916 ⟨rfl, hb⟩
    refine ⟨_, rfl, ?_⟩
    have n0_ := Aside0.mk (Kd.S_below (by (with_reducible repeat (first | apply Kd.S_alloc | apply Kd.S_drewN | apply Kd.S_drew)); exact HO9369609.out) hb)
    have n1_ := Aside0.mk (Kd.S_below (by (with_reducible repeat (first | apply Kd.S_alloc | apply Kd.S_drewN | apply Kd.S_drew)); exact HO9781806.out) hb)
    have n2_ := Aside0.mk (Kd.S_below (by (with_reducible repeat (first | apply Kd.S_alloc | apply Kd.S_drewN | apply Kd.S_drew)); exact HO9184929.out) hb)
    have n3_ := Aside0.mk (Kd.S_below (by (with_reducible repeat (first | apply Kd.S_alloc | apply Kd.S_drewN | apply Kd.S_drew)); exact HO9916980.out) hb)
    have n4_ := Aside0.mk (Kd.S_below (by (with_reducible repeat (first | apply Kd.S_alloc | apply Kd.S_drewN | apply Kd.S_drew)); exact HO9455877.out) hb)
    have n5_ := Aside0.mk (Kd.S_below (by (with_reducible repeat (first | apply Kd.S_alloc | apply Kd.S_drewN | apply Kd.S_drew)); exact HO9572939.out) hb)
    have n6_ := Aside0.mk (Kd.S_below (by (with_reducible repeat (first | apply Kd.S_alloc | apply Kd.S_drewN | apply Kd.S_drew)); exact HO9767654.out) hb)
    have n7_ := Aside0.mk (Kd.S_below (by (with_reducible repeat (first | apply Kd.S_alloc | apply Kd.S_drewN | apply Kd.S_drew)); exact HO9871881.out) hb)
    have n8_ := Aside0.mk (Kd.S_below (by (with_reducible repeat (first | apply Kd.S_alloc | apply Kd.S_drewN | apply Kd.S_drew)); exact HO9551685.out) hb)
    have n9_ := Aside0.mk (Kd.S_below (by (with_reducible repeat (first | apply Kd.S_alloc | apply Kd.S_drewN | apply Kd.S_drew)); exact HO9174882.out) hb)
    have n10_ := Aside0.mk (Kd.S_below (by (with_reducible repeat (first | apply Kd.S_alloc | apply Kd.S_drewN | apply Kd.S_drew)); exact HO9875417.out) hb)
    have n11_ := Aside0.mk (Kd.S_below (by (with_reducible repeat (first | apply Kd.S_alloc | apply Kd.S_drewN | apply Kd.S_drew)); exact HO9359122.out) hb)
    have n12_ := Aside0.mk (blk_below (g := gb9837977) (o := .cells #[.slice A0_0 l0_0.length c0_0, .slice A0_1 l0_1.length c0_1] 56 (0, 0)) (by (with_reducible repeat (first | refine blk_drewN ?_ _ | refine blk_drew ?_ | refine blk_alloc ?_ _)); exact BK9837977.out) hb)
    have n13_ := Aside0.mk (blk_below (g := gb9804400) (o := .cells #[.slice A1_0 l1_0.length c1_0, .slice A1_1 l1_1.length c1_1] 56 (0, 0)) (by (with_reducible repeat (first | refine blk_drewN ?_ _ | refine blk_drew ?_ | refine blk_alloc ?_ _)); exact BK9804400.out) hb)
    have n14_ := Aside0.mk (blk_below (g := gb9772540) (o := .cells #[.slice Ao9393009 t242.length co9393009, .slice Ao9227058 t245.length co9227058] 62 (0, 0)) (by (with_reducible repeat (first | refine blk_drewN ?_ _ | refine blk_drew ?_ | refine blk_alloc ?_ _)); exact BK9772540.out) hb)
    have n15_ := Aside0.mk (blk_below (g := gb9208327) (o := .cells #[.slice Ao9639668 t249.length co9639668, .slice Ao9353481 t252.length co9353481] 62 (0, 0)) (by (with_reducible repeat (first | refine blk_drewN ?_ _ | refine blk_drew ?_ | refine blk_alloc ?_ _)); exact BK9208327.out) hb)
    have n16_ := Aside0.mk (below_step (by repeat (first | (with_reducible first | exact HB.out | apply below_alloc | apply pw_below_drewN | apply below_drew1 | refine below_set ?_ GE9837977.out | refine below_set ?_ GE9804400.out | refine below_set ?_ GE9772540.out | refine below_set ?_ GE9208327.out) | exact HB.out)) hb)
    clear HO9369609
    clear HO9781806
    clear HO9184929
    clear HO9916980
    clear HO9455877
    clear HO9572939
    clear HO9767654
    clear HO9871881
    clear HO9551685
    clear HO9174882
    clear HO9875417
    clear HO9359122
    clear BK9837977
    clear BK9804400
    clear BK9772540
    clear BK9208327
    clear HB
    have HO9369609 := n0_
    have HO9781806 := n1_
    have HO9184929 := n2_
    have HO9916980 := n3_
    have HO9455877 := n4_
    have HO9572939 := n5_
    have HO9767654 := n6_
    have HO9871881 := n7_
    have HO9551685 := n8_
    have HO9174882 := n9_
    have HO9875417 := n10_
    have HO9359122 := n11_
    have BK9837977 := n12_
    have BK9804400 := n13_
    have BK9772540 := n14_
    have BK9208327 := n15_
    have HB := n16_
    clear n0_ n1_ n2_ n3_ n4_ n5_ n6_ n7_ n8_ n9_ n10_ n11_ n12_ n13_ n14_ n15_ n16_
    (try clear hb)
    (try clear hb9914667)
    (try clear hk)
    (try clear hi)
    refine hK.out _ _ ⟨(blk_cell BK9208327.out 0).trans rfl, (blk_cell BK9208327.out 1).trans rfl, (blk_cell BK9804400.out 0).trans rfl, (blk_cell BK9804400.out 1).trans rfl⟩ (fun hHeld => ?_)
    clear hK K
    refine norm_ (a' := ?_) ?_ ?_
    rotate_left
    · show Act.put _ (some 43) _ = _
      simp only [Act.put, List.setIfInBounds_toArray, List.set_cons_zero, List.set_cons_succ, i64_w, i32_w]
      rfl
    refine pure_ (i := 4) (N := some 44) (v := ?_) (a' := ?_) #[true, true, true, true, true] rfl rfl (by kernel_rfl) (fun _ _ _ h => h) (Or.inl ⟨by rfl, ?_⟩) ?_ ?_
    rotate_left
    · intro w'
      go_simp
      with_reducible rfl
    rotate_left
    · simp only [Act.put, List.setIfInBounds_toArray, List.set_cons_zero, List.set_cons_succ, i64_w, i32_w]
      rfl
    refine done_ (by kernel_rfl) ?_
    try go_wp2
    go_ret
    exact ⟨by first | rfl | (simp [errW_none, errW_some] <;> rfl) | (simp [*, errW_none, errW_some] <;> rfl), by repeat (first | (with_reducible first | exact HB.out | apply below_alloc | apply pw_below_drewN | apply below_drew1 | refine below_set ?_ GE9837977.out | refine below_set ?_ GE9804400.out | refine below_set ?_ GE9772540.out | refine below_set ?_ GE9208327.out) | exact HB.out)⟩)

end Go.Proofs.Ytjlcajhlggoleaa.G
