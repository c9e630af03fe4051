-- Written by a program of this session's own (xp.py) for this seat.
import Derived.Test.YtmppibhdnajjjaaDoorPZ
import Derived.Test.YtmppibhdnajjjaaDoorP0
import Derived.Test.YtmppibhdnajjjaaDoorP1
import Derived.Test.YtmppibhdnajjjaaDoorP3
namespace Go.Proofs.YtmppibhdnajjjaaDoor.P
open Go.RowKit Go.Proofs.YtmppibhdnajjjaaDoorW.PrintWords Go.Proofs.YtmppibhdnajjjaaDoorW.PrintLast Go.Proofs.YtmppibhdnajjjaaDoorW.PrintMore
attribute [local go_sem] Instr.field asAgg
attribute [local go_sem] max2_int min2_int max_two min_two max_three min_three max_four min_four   -- for this text's walks alone
set_option linter.unusedVariables false
set_option linter.unusedSimpArgs false

/-! ### spec_l3Parse: function 39 -/
def spec_l3Parse.f (k : Nat) (a0 : ByteArray) : Option ((List (S45)) × Bool) := (spec_l3Part.f k a0 0 ([] : List (S45))).bind fun bt238 => (if bt238.2.1 = true then (if bt238.2.2.2.1 = (a0.size : Int) then ((spec_l3Fault.f k bt238.2.2.2.2).bind fun t245 => (some (bt238.2.2.2.2, (t245 == 0)))) else (some (bt238.2.2.2.2, false))) else (some (bt238.2.2.2.2, false)))
theorem spec_l3Parse.mono : ∀ a0 k, LeO (spec_l3Parse.f k a0) (spec_l3Parse.f (k + 1) a0) := by
  intro a0 k
  unfold spec_l3Parse.f
  repeat' (with_reducible first | exact spec_l3Fault.mono _ _ | exact spec_l3Part.mono _ _ _ _ | exact LeO.refl _ | exact LeO.none _ | refine LeO.ite ?_ ?_ | refine LeO.bind ?_ (fun _ => ?_))
def spec_l3Parse.T3 : Bool × List (List Nat × List Nat) := (true, [([], []), ([0], [0]), ([], []), ([2], [2]), ([3], [3]), ([4, 3], [3, 4]), ([3], [3]), ([6, 3], [3, 6]), ([5, 7, 3], [3, 5, 7]), ([3, 8], [3, 8]), ([9, 3], [9]), ([10], [10]), ([11, 10], [10, 11]), ([12, 10, 10], [10, 12]), ([13, 10], [10, 13]), ([10, 14], [10, 14]), ([1, 13, 0, 1], [1]), ([15, 16, 0, 1, 2, 3, 4, 5, 6, 7, 8, 9, 10, 11, 12, 13, 14, 15, 16], [15])])
def spec_l3Parse.B3 : List Nat := [0, 1, 0, 4, 12, 28, 12, 76, 252, 508, 1020, 2044, 4092, 8188, 16380, 32764, 16383, 131071]
theorem spec_l3Parse.tab3 : rtab .any (opsOf Tryd.f39 3) = spec_l3Parse.T3 := by kernel_rfl
theorem spec_l3Parse.bits3 : waitsOk spec_l3Parse.T3.2 spec_l3Parse.B3 = true := by kernel_rfl
set_option maxHeartbeats 8000000 in
set_option maxRecDepth 100000 in
theorem spec_l3Parse.calls (k : Nat) (a0 : ByteArray) (r1 : List (S45)) (r2 : Bool) (w : World) (h : spec_l3Parse.f k a0 = some (r1, r2)) :
    Calls Tryd.prog 39 #[.string a0] w fun e w' => ∃ v0_ : Value, e = .returned (.tuple #[v0_, .bool r2]) ∧ Kd.R k45 45 w' w.heap.size (fun _ => True) v0_ r1 ∧ Below w.heap.size w w' := by
 have hu123 := Tryd.underlying123; have HB := a_ (Below.refl w.heap.size w); have H : ((spec_l3Part.f k a0 0 ([] : List (S45))).bind fun bt238 => (if bt238.2.1 = true then (if bt238.2.2.2.1 = (a0.size : Int) then ((spec_l3Fault.f k bt238.2.2.2.2).bind fun t245 => (some (bt238.2.2.2.2, (t245 == 0)))) else (some (bt238.2.2.2.2, false))) else (some (bt238.2.2.2.2, false)))) = some (r1, r2) := h; clear h; replace H := Option.bind_eq_some_iff.mp H; obtain ⟨⟨t238, t239, t240, t241, t242⟩, A20, H⟩ := H; replace H : (if t239 = true then (if t241 = (a0.size : Int) then ((spec_l3Fault.f k t242).bind fun t245 => (some (t242, (t245 == 0)))) else (some (t242, false))) else (some (t242, false))) = some (r1, r2) := H; have A2 := a_ A20; clear A20; by_cases cx0 : t239 = true; subst cx0; rw [if_pos rfl] at H; by_cases cx1 : t241 = (a0.size : Int); rw [if_pos cx1] at H; have cx1b0 : (t241 == (a0.size : Int)) = true := beq_iff_eq.mpr cx1; have cx1b1 : (t241 != (a0.size : Int)) = false := bne_eq_false_iff_eq.mpr cx1; clear cx1; replace H := Option.bind_eq_some_iff.mp H; obtain ⟨tx2, Ay2, H⟩ := H; have Ax2 := a_ Ay2; clear Ay2; simp only [Option.some.injEq, Prod.mk.injEq] at H; obtain ⟨rfl, rfl⟩ := H; have m0_0 := t_; have m0_1 := t_; have m0_5 := t_; have m0_6 := t_; have m0_8 := t_; have m0_10 := t_; have m0_11 := t_; have m0_13 := t_; have m0_15 := t_; rotate_left; rw [if_neg cx1] at H; have cx1b0 : (t241 == (a0.size : Int)) = false := beq_eq_false_iff_ne.mpr cx1; have cx1b1 : (t241 != (a0.size : Int)) = true := bne_iff_ne.mpr cx1; simp only [Option.some.injEq, Prod.mk.injEq] at H; obtain ⟨rfl, rfl⟩ := H; have m0_1 := t_; have m0_2 := t_; have m0_5 := t_; have m0_7 := t_; have m0_8 := t_; have m0_10 := t_; have m0_12 := t_; have m0_13 := t_; have m0_15 := t_; rotate_left; replace cx0 := Bool.eq_false_iff.mpr cx0; subst cx0; rw [if_neg (show ¬ (false = true) by decide)] at H; simp only [Option.some.injEq, Prod.mk.injEq] at H; obtain ⟨rfl, rfl⟩ := H; have m0_3 := t_; have m0_4 := t_; have m0_9 := t_; have m0_14 := t_; have m0_16 := t_; rotate_left
 all_goals (
  go_enter Tryd.func39, Tryd.ntmps39
  try go_wp2_with (first | ((with_reducible refine gate_dst (N := 4) rfl ?_); (try (refine gate_guard (by rfl) ?_; dsimp only)); refine box_event zr_ (N := 4) zr_ (cs := #[.string (⟨#[]⟩ : ByteArray), .int .i64 0, .slice none 0 0]) (t := 123) zs_ ?_; intro gb9427325 hg w9247790 hbox hb; have n0_ := a_ (below_step y1_ hb); have n1_ := a_ (hbox); have n2_ := a_ ((by rw [hg]; exact (below_size y1_) : w.heap.size ≤ gb9427325)); have n3_ := a_ ((by rw [hg]; exact (below_size y1_) : w.heap.size ≤ gb9427325)); clear HB; have HB := n0_; have BK9427325 := n1_; have GW9427325 := n2_; have GE9427325 := n3_; clear n0_ n1_ n2_ n3_; clear hb hbox hg; have hcz9900810_0 : w9247790.cell? ⟨gb9427325, 0, none⟩ = some (.string (⟨#[]⟩ : ByteArray)) := (blk_cell BK9427325.out 0).trans rfl; have hcz9900810_1 : w9247790.cell? ⟨gb9427325, 1, none⟩ = some (.int .i64 0) := (blk_cell BK9427325.out 1).trans rfl; have hcz9900810_2 : w9247790.cell? ⟨gb9427325, 2, none⟩ = some (.slice none 0 0) := (blk_cell BK9427325.out 2).trans rfl; have hfz9900810_0 := blk_frozen BK9427325.out 0; have hfz9900810_1 := blk_frozen BK9427325.out 1; have hfz9900810_2 := blk_frozen BK9427325.out 2) | (have mkq_ := m0_0; clear mkq_; (with_reducible refine gate_store (t := 123) (p := 4) rfl ?_); refine store_event (t := 123) (p := 4) (v := ?vo_w8) (w1 := (((w9247790.setCell ⟨gb9427325, 0, none⟩ (.string a0)).setCell ⟨gb9427325, 1, none⟩ (.int .i64 0)).setCell ⟨gb9427325, 2, none⟩ (.slice none 0 0))) ?hg ?ho ?hn ?hr ?_; (case ho => rfl); (case hg => rfl); (case hn => rfl); (case hr => first | (go_simp; done) | (go_simp; rfl)); intro w9709449 hw; have n0_ : Aside0 (w9709449.heap[gb9427325]? = some (.cells #[.string a0, .int .i64 0, .slice none 0 0] 123 (0, 0))) := ⟨y21_⟩; have n1_ : Aside0 (Below w.heap.size w w9709449) := ⟨(by rw [hw]; exact y31_)⟩; clear hw; clear BK9427325; clear HB; have BK9427325 := n0_; have HB := n1_; clear n0_ n1_) | (have mkq_ := m0_1; clear mkq_; (with_reducible refine gate_callee (f := 74) rfl ?_); refine gc_ 74 10 Tryd.func74 #[.pointer (some ⟨gb9427325, 0, none⟩)] ?_; (refine (spec_l3Part.calls k gb9427325 a0 0 (fun k_ => some k_ = (.slice none 0 0 : Value).ownBlock) (.slice none 0 0) ([] : List (S45)) t238 true t240 t241 t242 w _ ?side1 ?side2 ?side3 ?side4 A2.out).mono ?_); (case side1 => repeat (first | (with_reducible first | exact HB.out | apply below_alloc | apply pw_below_drewN | apply below_drew1 | refine below_set ?_ GE9427325.out) | exact HB.out)); (case side2 => (with_reducible repeat (first | refine blk_drewN ?_ _ | refine blk_drew ?_ | refine blk_alloc ?_ _)); exact BK9427325.out); (case side3 => exact GE9427325.out); (case side4 => exact Kd.R_nil _ _ _ _ _); rintro e w9492153 ⟨v9768017, rfl, ho0, hi, hb, hkp⟩; refine ⟨_, rfl, ?_⟩; have n0_ := a_ (hi); have n1_ := a_ (Kd.R_mono (ok' := fun k_ => True) ho0 (fun k_ hk_ => trivial)); have n2_ := a_ (hb); clear BK9427325; clear HB; have BK9427325 := n0_; have HO9971833 := n1_; have HB := n2_; clear n0_ n1_ n2_; (try clear hb); (try clear hkp); (try clear ho0)) | (have mkq_ := m0_2; clear mkq_; (with_reducible refine gate_store (t := 123) (p := 4) rfl ?_); refine store_event (t := 123) (p := 4) (v := ?vo_w15) (w1 := (((w9247790.setCell ⟨gb9427325, 0, none⟩ (.string a0)).setCell ⟨gb9427325, 1, none⟩ (.int .i64 0)).setCell ⟨gb9427325, 2, none⟩ (.slice none 0 0))) ?hg ?ho ?hn ?hr ?_; (case ho => rfl); (case hg => rfl); (case hn => rfl); (case hr => first | (go_simp; done) | (go_simp; rfl)); intro w9849391 hw; have n0_ : Aside0 (w9849391.heap[gb9427325]? = some (.cells #[.string a0, .int .i64 0, .slice none 0 0] 123 (0, 0))) := ⟨y21_⟩; have n1_ : Aside0 (Below w.heap.size w w9849391) := ⟨(by rw [hw]; exact y31_)⟩; clear hw; clear BK9427325; clear HB; have BK9427325 := n0_; have HB := n1_; clear n0_ n1_) | (have mkq_ := m0_3; clear mkq_; (with_reducible refine gate_store (t := 123) (p := 4) rfl ?_); refine store_event (t := 123) (p := 4) (v := ?vo_w20) (w1 := (((w9247790.setCell ⟨gb9427325, 0, none⟩ (.string a0)).setCell ⟨gb9427325, 1, none⟩ (.int .i64 0)).setCell ⟨gb9427325, 2, none⟩ (.slice none 0 0))) ?hg ?ho ?hn ?hr ?_; (case ho => rfl); (case hg => rfl); (case hn => rfl); (case hr => first | (go_simp; done) | (go_simp; rfl)); intro w9348524 hw; have n0_ : Aside0 (w9348524.heap[gb9427325]? = some (.cells #[.string a0, .int .i64 0, .slice none 0 0] 123 (0, 0))) := ⟨y21_⟩; have n1_ : Aside0 (Below w.heap.size w w9348524) := ⟨(by rw [hw]; exact y31_)⟩; clear hw; clear BK9427325; clear HB; have BK9427325 := n0_; have HB := n1_; clear n0_ n1_) | (have mkq_ := m0_4; clear mkq_; (with_reducible refine gate_callee (f := 74) rfl ?_); refine gc_ 74 10 Tryd.func74 #[.pointer (some ⟨gb9427325, 0, none⟩)] ?_; (refine (spec_l3Part.calls k gb9427325 a0 0 (fun k_ => some k_ = (.slice none 0 0 : Value).ownBlock) (.slice none 0 0) ([] : List (S45)) t238 false t240 t241 t242 w _ ?side1 ?side2 ?side3 ?side4 A2.out).mono ?_); (case side1 => repeat (first | (with_reducible first | exact HB.out | apply below_alloc | apply pw_below_drewN | apply below_drew1 | refine below_set ?_ GE9427325.out) | exact HB.out)); (case side2 => (with_reducible repeat (first | refine blk_drewN ?_ _ | refine blk_drew ?_ | refine blk_alloc ?_ _)); exact BK9427325.out); (case side3 => exact GE9427325.out); (case side4 => exact Kd.R_nil _ _ _ _ _); rintro e w9838957 ⟨v9522155, rfl, ho0, hi, hb, hkp⟩; refine ⟨_, rfl, ?_⟩; have n0_ := a_ (hi); have n1_ := a_ (Kd.R_mono (ok' := fun k_ => True) ho0 (fun k_ hk_ => trivial)); have n2_ := a_ (hb); clear BK9427325; clear HB; have BK9427325 := n0_; have HO9908601 := n1_; have HB := n2_; clear n0_ n1_ n2_; (try clear hb); (try clear hkp); (try clear ho0)))
  first
  | fail_if_success clear m0_5
  |(clear m0_5; have n0_ := a_ (Kd.R_drew HO9971833.out); have n1_ := a_ (blk_drew BK9427325.out); have n2_ := a_ (below_drew1 HB.out); clear HO9971833; clear BK9427325; clear HB; have HO9971833 := n0_; have BK9427325 := n1_; have HB := n2_; clear n0_ n1_ n2_)
  first
  | fail_if_success clear m0_6
  |(clear m0_6; obtain ⟨Ao9997294, co9997294, eo9997294⟩ := Kd.R_slice HO9971833.out; (first | subst eo9997294 | (injection eo9997294 with f1_ f2_ f3_; have f4_ := f1_.symm; have f5_ := f3_.symm; clear f1_ f2_ f3_; subst f4_; subst f5_)); refine start_ (n := 18) (S := fun w' => w'.cell? ⟨gb9427325, 0, none⟩ = some (.string t240) ∧ w'.cell? ⟨gb9427325, 1, none⟩ = some (.int .i64 t241) ∧ w'.cell? ⟨gb9427325, 2, none⟩ = some (.slice Ao9997294 t242.length co9997294)) (ds := []) #[F_,F_,F_,F_,F_,F_,F_,F_,F_,F_,F_,F_,F_,F_,F_,F_,F_,F_] y30_ rfl rfl ⟨(blk_cell BK9427325.out 0).trans rfl, (blk_cell BK9427325.out 1).trans rfl, (blk_cell BK9427325.out 2).trans rfl⟩ (fun hHeld => ?_); refine with_tabW spec_l3Parse.tab3 spec_l3Parse.bits3 (fun HT_ HW_ => ?_))
  first
  | fail_if_success clear m0_7
  |(clear m0_7; refine start_ (n := 18) (S := fun w' => w'.cell? ⟨gb9427325, 0, none⟩ = some (.string t240) ∧ w'.cell? ⟨gb9427325, 1, none⟩ = some (.int .i64 t241) ∧ w'.cell? ⟨gb9427325, 2, none⟩ = some (v9768017)) (ds := []) #[F_,F_,F_,F_,F_,F_,F_,F_,F_,F_,F_,F_,F_,F_,F_,F_,F_,F_] y30_ rfl rfl ⟨(blk_cell BK9427325.out 0).trans rfl, (blk_cell BK9427325.out 1).trans rfl, (blk_cell BK9427325.out 2).trans rfl⟩ (fun hHeld => ?_); refine with_tabW spec_l3Parse.tab3 spec_l3Parse.bits3 (fun HT_ HW_ => ?_))
  first
  | fail_if_success clear m0_8
  |(clear m0_8; generalize w9492153.drew = w9274163 at HO9971833 BK9427325 HB hHeld ⊢)
  first
  | fail_if_success clear m0_9
  |(clear m0_9; have n0_ := a_ (Kd.R_drew HO9908601.out); have n1_ := a_ (blk_drew BK9427325.out); have n2_ := a_ (below_drew1 HB.out); clear HO9908601; clear BK9427325; clear HB; have HO9908601 := n0_; have BK9427325 := n1_; have HB := n2_; clear n0_ n1_ n2_; refine start_ (n := 18) (S := fun w' => w'.cell? ⟨gb9427325, 0, none⟩ = some (.string t240) ∧ w'.cell? ⟨gb9427325, 1, none⟩ = some (.int .i64 t241) ∧ w'.cell? ⟨gb9427325, 2, none⟩ = some (v9522155)) (ds := []) #[F_,F_,F_,F_,F_,F_,F_,F_,F_,F_,F_,F_,F_,F_,F_,F_,F_,F_] y30_ rfl rfl ⟨(blk_cell BK9427325.out 0).trans rfl, (blk_cell BK9427325.out 1).trans rfl, (blk_cell BK9427325.out 2).trans rfl⟩ (fun hHeld => ?_); refine with_tabW spec_l3Parse.tab3 spec_l3Parse.bits3 (fun HT_ HW_ => ?_); generalize w9838957.drew = w9714449 at HO9908601 BK9427325 HB hHeld ⊢)
  refine pure_ (i := 0) (N := some 13) #[T_,F_,F_,F_,F_,F_,F_,F_,F_,F_,F_,F_,F_,F_,F_,F_,F_,F_] rfl rfl z1_ (fun _ _ _ h => h) (Or.inl ⟨rfl, z2_⟩) z3_ ?_; refine pure_ (i := 2) (N := some 15) #[T_,F_,T_,F_,F_,F_,F_,F_,F_,F_,F_,F_,F_,F_,F_,F_,F_,F_] rfl rfl z1_ (fun _ _ _ h => h) (Or.inl ⟨rfl, z2_⟩) z3_ ?_; refine pure_ (i := 3) (N := some 16) #[T_,F_,T_,T_,F_,F_,F_,F_,F_,F_,F_,F_,F_,F_,F_,F_,F_,F_] rfl rfl z1_ (fun _ _ _ h => h) (Or.inl ⟨rfl, z2_⟩) z3_ ?_
  first
  | fail_if_success clear m0_10
  |(clear m0_10; refine pure_ (i := 4) (N := some 17) #[T_,F_,T_,T_,T_,F_,F_,F_,F_,F_,F_,F_,F_,F_,F_,F_,F_,F_] rfl rfl z1_ (fun _ _ _ h => h) (Or.inl ⟨rfl, z2_⟩) z3_ ?_; refine pure_ (i := 6) (N := some 19) #[T_,F_,T_,T_,T_,F_,T_,F_,F_,F_,F_,F_,F_,F_,F_,F_,F_,F_] rfl rfl z1_ (fun _ _ _ h => h) (Or.inl ⟨rfl, z2_⟩) z3_ ?_; refine pure_ (i := 7) (N := some 20) #[T_,F_,T_,T_,T_,F_,T_,T_,F_,F_,F_,F_,F_,F_,F_,F_,F_,F_] rfl rfl z1_ (fun _ _ _ h => h) (Or.inl ⟨rfl, z2_⟩) z3_ ?_; refine take_ (i := 1) (N := some 14) #[T_,T_,T_,T_,T_,F_,T_,T_,F_,F_,F_,F_,F_,F_,F_,F_,F_,F_] rfl rfl z4_ (fun _ _ _ h => h) (Or.inl ⟨rfl, z8_⟩) hHeld z3_ ?_; refine take_ (i := 5) (N := some 18) #[T_,T_,T_,T_,T_,T_,T_,T_,F_,F_,F_,F_,F_,F_,F_,F_,F_,F_] rfl rfl z4_ (fun _ _ _ h => h) (Or.inl ⟨rfl, z8_⟩) hHeld z3_ ?_; refine pure_ (i := 8) (N := some 21) #[T_,T_,T_,T_,T_,T_,T_,T_,T_,F_,F_,F_,F_,F_,F_,F_,F_,F_] rfl rfl z1_ (fun _ _ _ h => h) (Or.inl ⟨rfl, z2_⟩) z3_ ?_; refine pure_ (i := 9) (N := some 22) #[T_,T_,T_,T_,T_,T_,T_,T_,T_,T_,F_,F_,F_,F_,F_,F_,F_,F_] rfl rfl z1_ (fun _ _ _ h => h) (Or.inl ⟨rfl, z2_⟩) z3_ ?_; refine pure_ (i := 10) (N := some 23) #[T_,T_,T_,T_,T_,T_,T_,T_,T_,T_,T_,F_,F_,F_,F_,F_,F_,F_] rfl rfl z1_ (fun _ _ _ h => h) (Or.inl ⟨rfl, z2_⟩) z3_ ?_)
  first
  | fail_if_success clear m0_11
  |(clear m0_11; refine pure_ (i := 11) (N := some 24) #[T_,T_,T_,T_,T_,T_,T_,T_,T_,T_,T_,T_,F_,F_,F_,F_,F_,F_] rfl rfl z1_ (fun _ _ _ h => h) (Or.inl ⟨rfl, z2_⟩) z3_ ?_; refine take_ (i := 12) (N := some 25) #[T_,T_,T_,T_,T_,T_,T_,T_,T_,T_,T_,T_,T_,F_,F_,F_,F_,F_] rfl rfl z4_ (fun _ _ _ h => h) (Or.inl ⟨rfl, z8_⟩) hHeld z3_ ?_; refine one_ (i := 13) (N := some 26) #[T_,T_,T_,T_,T_,T_,T_,T_,T_,T_,T_,T_,T_,T_,F_,F_,F_,F_] rfl rfl (one_of HT_.out y30_) y39_ (fun K hK => ?_); refine goes_ Tryd.func34 y30_ rfl #[.slice Ao9997294 t242.length co9997294] (by rfl) rfl rfl y12_ ?_; with_reducible refine (spec_l3Fault.calls k _ _ t242 tx2 _ ?side1 ?side2 Ax2.out).mono ?_
    (case side1 => repeat (first | exact (Kd.R_reads' HO9971833.out).2.2 | (with_reducible refine Kd.C_alloc ?_ _) | (with_reducible refine Kd.C_drewN ?_ _) | (with_reducible refine Kd.C_drew ?_))); (case side2 => exact (Kd.R_reads' HO9971833.out).2.1); rintro e w9985327 ⟨rfl, hb⟩; refine ⟨_, rfl, ?_⟩; have n0_ := a_ (Kd.R_below (by (with_reducible repeat (first | apply Kd.R_alloc | apply Kd.R_drewN | apply Kd.R_drew)); exact HO9971833.out) hb); have n1_ := a_ (blk_below (g := gb9427325) (o := .cells #[.string t240, .int .i64 t241, .slice Ao9997294 t242.length co9997294] 123 (0, 0)) (by (with_reducible repeat (first | refine blk_drewN ?_ _ | refine blk_drew ?_ | refine blk_alloc ?_ _)); exact BK9427325.out) hb); have n2_ := a_ (below_step y31_ hb); clear HO9971833; clear BK9427325; clear HB; have HO9971833 := n0_; have BK9427325 := n1_; have HB := n2_; clear n0_ n1_ n2_; (try clear hb); (try clear hb9800335); (try clear hk); (try clear hi); refine hK.out _ _ ⟨(blk_cell BK9427325.out 0).trans rfl, (blk_cell BK9427325.out 1).trans rfl, (blk_cell BK9427325.out 2).trans rfl⟩ (fun hHeld => ?_); clear hK K; refine norm_ z9_ ?_; refine pure_ (i := 14) (N := some 27) #[T_,T_,T_,T_,T_,T_,T_,T_,T_,T_,T_,T_,T_,T_,T_,F_,F_,F_] rfl rfl z1_ (fun _ _ _ h => h) (Or.inl ⟨rfl, z2_⟩) z3_ ?_)
  first
  | fail_if_success clear m0_12
  |(clear m0_12; refine pure_ (i := 11) (N := some 24) (v := undef) (a' := ?_) #[T_,T_,T_,T_,T_,T_,T_,T_,T_,T_,T_,T_,F_,F_,F_,F_,F_,F_] rfl rfl (any_of HT_.out y30_) (fun _ _ _ h => h) (Or.inr ⟨by rfl, rfl⟩) ?_ ?_; rotate_left
    ·simp only [Act.put, List.setIfInBounds_toArray, List.set_cons_zero, List.set_cons_succ, i64_w, i32_w]
     rfl
    refine pure_ (i := 12) (N := some 25) (v := undef) (a' := ?_) #[T_,T_,T_,T_,T_,T_,T_,T_,T_,T_,T_,T_,T_,F_,F_,F_,F_,F_] rfl rfl (any_of HT_.out y30_) (fun _ _ _ h => h) (Or.inr ⟨by rfl, rfl⟩) ?_ ?_; rotate_left
    ·simp only [Act.put, List.setIfInBounds_toArray, List.set_cons_zero, List.set_cons_succ, i64_w, i32_w]
     rfl
    refine pure_ (i := 13) (N := some 26) (v := undef) (a' := ?_) #[T_,T_,T_,T_,T_,T_,T_,T_,T_,T_,T_,T_,T_,T_,F_,F_,F_,F_] rfl rfl (any_of HT_.out y30_) (fun _ _ _ h => h) (Or.inr ⟨by rfl, rfl⟩) ?_ ?_; rotate_left
    ·simp only [Act.put, List.setIfInBounds_toArray, List.set_cons_zero, List.set_cons_succ, i64_w, i32_w]
     rfl
    refine pure_ (i := 14) (N := some 27) (v := undef) (a' := ?_) #[T_,T_,T_,T_,T_,T_,T_,T_,T_,T_,T_,T_,T_,T_,T_,F_,F_,F_] rfl rfl (any_of HT_.out y30_) (fun _ _ _ h => h) (Or.inr ⟨by rfl, rfl⟩) ?_ ?_; rotate_left
    ·simp only [Act.put, List.setIfInBounds_toArray, List.set_cons_zero, List.set_cons_succ, i64_w, i32_w]
     rfl)
  first
  | fail_if_success clear m0_13
  |(clear m0_13; refine pure_ (i := 15) (N := some 28) #[T_,T_,T_,T_,T_,T_,T_,T_,T_,T_,T_,T_,T_,T_,T_,T_,F_,F_] rfl rfl z1_ (fun _ _ _ h => h) (Or.inl ⟨rfl, z2_⟩) z3_ ?_)
  first
  | fail_if_success clear m0_14
  |(clear m0_14; refine pure_ (i := 4) (N := some 17) (v := undef) (a' := ?_) #[T_,F_,T_,T_,T_,F_,F_,F_,F_,F_,F_,F_,F_,F_,F_,F_,F_,F_] rfl rfl (any_of HT_.out y30_) (fun _ _ _ h => h) (Or.inr ⟨by rfl, rfl⟩) ?_ ?_; rotate_left
    ·simp only [Act.put, List.setIfInBounds_toArray, List.set_cons_zero, List.set_cons_succ, i64_w, i32_w]
     rfl
    refine pure_ (i := 5) (N := some 18) (v := undef) (a' := ?_) #[T_,F_,T_,T_,T_,T_,F_,F_,F_,F_,F_,F_,F_,F_,F_,F_,F_,F_] rfl rfl (any_of HT_.out y30_) (fun _ _ _ h => h) (Or.inr ⟨by rfl, rfl⟩) ?_ ?_; rotate_left
    ·simp only [Act.put, List.setIfInBounds_toArray, List.set_cons_zero, List.set_cons_succ, i64_w, i32_w]
     rfl
    refine pure_ (i := 6) (N := some 19) (v := undef) (a' := ?_) #[T_,F_,T_,T_,T_,T_,T_,F_,F_,F_,F_,F_,F_,F_,F_,F_,F_,F_] rfl rfl (any_of HT_.out y30_) (fun _ _ _ h => h) (Or.inr ⟨by rfl, rfl⟩) ?_ ?_; rotate_left
    ·simp only [Act.put, List.setIfInBounds_toArray, List.set_cons_zero, List.set_cons_succ, i64_w, i32_w]
     rfl
    refine pure_ (i := 7) (N := some 20) (v := undef) (a' := ?_) #[T_,F_,T_,T_,T_,T_,T_,T_,F_,F_,F_,F_,F_,F_,F_,F_,F_,F_] rfl rfl (any_of HT_.out y30_) (fun _ _ _ h => h) (Or.inr ⟨by rfl, rfl⟩) ?_ ?_; rotate_left
    ·simp only [Act.put, List.setIfInBounds_toArray, List.set_cons_zero, List.set_cons_succ, i64_w, i32_w]
     rfl
    refine pure_ (i := 8) (N := some 21) (v := undef) (a' := ?_) #[T_,F_,T_,T_,T_,T_,T_,T_,T_,F_,F_,F_,F_,F_,F_,F_,F_,F_] rfl rfl (any_of HT_.out y30_) (fun _ _ _ h => h) (Or.inr ⟨by rfl, rfl⟩) ?_ ?_; rotate_left
    ·simp only [Act.put, List.setIfInBounds_toArray, List.set_cons_zero, List.set_cons_succ, i64_w, i32_w]
     rfl
    refine pure_ (i := 9) (N := some 22) #[T_,F_,T_,T_,T_,T_,T_,T_,T_,T_,F_,F_,F_,F_,F_,F_,F_,F_] rfl rfl z1_ (fun _ _ _ h => h) (Or.inl ⟨rfl, z2_⟩) z3_ ?_; refine pure_ (i := 10) (N := some 23) #[T_,F_,T_,T_,T_,T_,T_,T_,T_,T_,T_,F_,F_,F_,F_,F_,F_,F_] rfl rfl z1_ (fun _ _ _ h => h) (Or.inl ⟨rfl, z2_⟩) z3_ ?_; refine pure_ (i := 11) (N := some 24) (v := undef) (a' := ?_) #[T_,F_,T_,T_,T_,T_,T_,T_,T_,T_,T_,T_,F_,F_,F_,F_,F_,F_] rfl rfl (any_of HT_.out y30_) (fun _ _ _ h => h) (Or.inr ⟨by rfl, rfl⟩) ?_ ?_; rotate_left
    ·simp only [Act.put, List.setIfInBounds_toArray, List.set_cons_zero, List.set_cons_succ, i64_w, i32_w]
     rfl
    refine pure_ (i := 12) (N := some 25) (v := undef) (a' := ?_) #[T_,F_,T_,T_,T_,T_,T_,T_,T_,T_,T_,T_,T_,F_,F_,F_,F_,F_] rfl rfl (any_of HT_.out y30_) (fun _ _ _ h => h) (Or.inr ⟨by rfl, rfl⟩) ?_ ?_; rotate_left
    ·simp only [Act.put, List.setIfInBounds_toArray, List.set_cons_zero, List.set_cons_succ, i64_w, i32_w]
     rfl
    refine pure_ (i := 13) (N := some 26) (v := undef) (a' := ?_) #[T_,F_,T_,T_,T_,T_,T_,T_,T_,T_,T_,T_,T_,T_,F_,F_,F_,F_] rfl rfl (any_of HT_.out y30_) (fun _ _ _ h => h) (Or.inr ⟨by rfl, rfl⟩) ?_ ?_; rotate_left
    ·simp only [Act.put, List.setIfInBounds_toArray, List.set_cons_zero, List.set_cons_succ, i64_w, i32_w]
     rfl
    refine pure_ (i := 14) (N := some 27) (v := undef) (a' := ?_) #[T_,F_,T_,T_,T_,T_,T_,T_,T_,T_,T_,T_,T_,T_,T_,F_,F_,F_] rfl rfl (any_of HT_.out y30_) (fun _ _ _ h => h) (Or.inr ⟨by rfl, rfl⟩) ?_ ?_; rotate_left
    ·simp only [Act.put, List.setIfInBounds_toArray, List.set_cons_zero, List.set_cons_succ, i64_w, i32_w]
     rfl
    refine pure_ (i := 15) (N := some 28) #[T_,F_,T_,T_,T_,T_,T_,T_,T_,T_,T_,T_,T_,T_,T_,T_,F_,F_] rfl rfl z1_ (fun _ _ _ h => h) (Or.inl ⟨rfl, z2_⟩) z3_ ?_; refine take_ (i := 1) (N := some 14) #[T_,T_,T_,T_,T_,T_,T_,T_,T_,T_,T_,T_,T_,T_,T_,T_,F_,F_] rfl rfl z4_ (fun _ _ _ h => h) (Or.inl ⟨rfl, z8_⟩) hHeld z3_ ?_)
  refine pure_ (i := 16) (N := some 2) #[T_,T_,T_,T_,T_,T_,T_,T_,T_,T_,T_,T_,T_,T_,T_,T_,T_,F_] rfl rfl z1_ (fun _ _ _ h => h) (Or.inl ⟨rfl, z2_⟩) z3_ ?_; refine pure_ (i := 17) (N := some 3) #[T_,T_,T_,T_,T_,T_,T_,T_,T_,T_,T_,T_,T_,T_,T_,T_,T_,T_] rfl rfl z1_ (fun _ _ _ h => h) (Or.inl ⟨rfl, z2_⟩) z3_ ?_; refine done_ (done_of HT_.out y30_) ?_; try go_wp2
  go_ret2
  first
  | fail_if_success clear m0_15
  |(clear m0_15; exact ⟨_, y6_, by (with_reducible repeat (first | apply Kd.R_alloc | apply Kd.R_drewN | apply Kd.R_drew)); exact HO9971833.out, y31_⟩)
  first
  | fail_if_success clear m0_16
  |(clear m0_16; exact ⟨_, y6_, by (with_reducible repeat (first | apply Kd.R_alloc | apply Kd.R_drewN | apply Kd.R_drew)); exact HO9908601.out, y31_⟩))

/-! ### spec_ParseExpr: function 16 -/
def spec_ParseExpr.f (k : Nat) (a0 : ByteArray) : Option (Int × (List (S45))) := if (a0.size : Int) > 200 then (some (2, ([] : List (S45)))) else ((spec_l3Parse.f k a0).bind fun bt247 => (if bt247.2 = true then (some (0, bt247.1)) else (some (5, ([] : List (S45))))))
theorem spec_ParseExpr.mono : ∀ a0 k, LeO (spec_ParseExpr.f k a0) (spec_ParseExpr.f (k + 1) a0) := by
  intro a0 k
  unfold spec_ParseExpr.f
  repeat' (with_reducible first | exact spec_l3Parse.mono _ _ | exact LeO.refl _ | exact LeO.none _ | refine LeO.ite ?_ ?_ | refine LeO.bind ?_ (fun _ => ?_))
set_option maxHeartbeats 8000000 in
set_option maxRecDepth 100000 in
theorem spec_ParseExpr.calls (k : Nat) (a0 : ByteArray) (r1 : Int) (r2 : List (S45)) (w : World) (h : spec_ParseExpr.f k a0 = some (r1, r2)) :
    Calls Tryd.prog 16 #[.string a0] w fun e w' => ∃ v1_ : Value, e = .returned (.agg #[.int .i64 r1, v1_]) ∧ Kd.R k45 45 w' w.heap.size (fun _ => True) v1_ r2 ∧ Below w.heap.size w w' := by
 have hu35 := Tryd.underlying35; have HB := a_ (Below.refl w.heap.size w); have H : (if (a0.size : Int) > 200 then (some (2, ([] : List (S45)))) else ((spec_l3Parse.f k a0).bind fun bt247 => (if bt247.2 = true then (some (0, bt247.1)) else (some (5, ([] : List (S45))))))) = some (r1, r2) := h; clear h; by_cases cx0 : (a0.size : Int) > 200; rw [if_pos cx0] at H; have cx0b0 : decide (200 < (a0.size : Int)) = true := decide_eq_true cx0; have cx0b1 : decide (200 < a0.size) = true := decide_eq_true y79_; clear cx0; simp only [Option.some.injEq, Prod.mk.injEq] at H; obtain ⟨rfl, rfl⟩ := H; have m0_0 := t_; have m0_4 := t_; have m0_6 := t_; rotate_left; rw [if_neg cx0] at H; have cx0b0 : decide (200 < (a0.size : Int)) = false := decide_eq_false cx0; have cx0b1 : decide (200 < a0.size) = false := decide_eq_false y79_; clear cx0; replace H := Option.bind_eq_some_iff.mp H; obtain ⟨⟨t247, t248⟩, A50, H⟩ := H; replace H : (if t248 = true then (some (0, t247)) else (some (5, ([] : List (S45))))) = some (r1, r2) := H; have A5 := a_ A50; clear A50; by_cases cx1 : t248 = true; subst cx1; rw [if_pos rfl] at H; simp only [Option.some.injEq, Prod.mk.injEq] at H; obtain ⟨rfl, rfl⟩ := H; have m0_1 := t_; have m0_2 := t_; have m0_7 := t_; rotate_left; replace cx1 := Bool.eq_false_iff.mpr cx1; subst cx1; rw [if_neg (show ¬ (false = true) by decide)] at H; simp only [Option.some.injEq, Prod.mk.injEq] at H; obtain ⟨rfl, rfl⟩ := H; have m0_1 := t_; have m0_3 := t_; have m0_5 := t_; have m0_6 := t_; rotate_left
 all_goals (
  go_enter Tryd.func16, Tryd.ntmps16
  go_wp2_with (first | (have mkq_ := m0_0; clear mkq_; (with_reducible refine gate_dst (N := 2) rfl ?_); refine box_event zr_ (N := 2) zr_ (cs := #[.int .i64 0, .slice none 0 0]) (t := 35) zs_ ?_; intro gb9789516 hg w9013234 hbox hb; have n0_ := a_ (below_step y1_ hb); have n1_ := a_ (hbox); have n2_ := a_ ((by rw [hg]; exact (below_size y1_) : w.heap.size ≤ gb9789516)); have n3_ := a_ ((by rw [hg]; exact (below_size y1_) : w.heap.size ≤ gb9789516)); clear HB; have HB := n0_; have BK9789516 := n1_; have GW9789516 := n2_; have GE9789516 := n3_; clear n0_ n1_ n2_ n3_; clear hb hbox hg; have hcz9658066_0 : w9013234.cell? ⟨gb9789516, 0, none⟩ = some (.int .i64 0) := (blk_cell BK9789516.out 0).trans rfl; have hcz9658066_1 : w9013234.cell? ⟨gb9789516, 1, none⟩ = some (.slice none 0 0) := (blk_cell BK9789516.out 1).trans rfl; have hfz9658066_0 := blk_frozen BK9789516.out 0; have hfz9658066_1 := blk_frozen BK9789516.out 1) | (have mkq_ := m0_1; clear mkq_; (with_reducible refine gate_dst (N := 2) rfl ?_); refine box_event zr_ (N := 2) zr_ (cs := #[.int .i64 0, .slice none 0 0]) (t := 35) zs_ ?_; intro gb9789516 hg w9013234 hbox hb; have n0_ := a_ (below_step y1_ hb); have n1_ := a_ (hbox); have n2_ := a_ ((by rw [hg]; exact (below_size y1_) : w.heap.size ≤ gb9789516)); have n3_ := a_ ((by rw [hg]; exact (below_size y1_) : w.heap.size ≤ gb9789516)); clear HB; have HB := n0_; have BK9789516 := n1_; have GW9789516 := n2_; have GE9789516 := n3_; clear n0_ n1_ n2_ n3_; clear hb hbox hg) | (have mkq_ := m0_2; clear mkq_; (with_reducible refine gate_callee (f := 39) rfl ?_); refine gc_ 39 11 Tryd.func39 #[.string a0] ?_; (with_reducible refine (spec_l3Parse.calls k a0 t247 _ _ A5.out).mono ?_); rintro e w9305642 ⟨v9936893, rfl, ho0, hb⟩; refine ⟨_, rfl, ?_⟩; have n0_ := a_ (Kd.R_lower ho0 (below_size y20_)); have n1_ := a_ (blk_below (g := gb9789516) (o := .cells #[.int .i64 0, .slice none 0 0] 35 (0, 0)) y22_ hb); have n2_ := a_ (below_step y20_ hb); clear BK9789516; clear HB; have HO9439500 := n0_; have BK9789516 := n1_; have HB := n2_; clear n0_ n1_ n2_; (try clear hb); (try clear hb9807748); (try clear hk); (try clear hi); (try clear ho0); obtain ⟨Ao9418115, co9418115, eo9418115⟩ := Kd.R_slice HO9439500.out; subst eo9418115; have hcz9534242_0 : w9305642.cell? ⟨gb9789516, 0, none⟩ = some (.int .i64 0) := (blk_cell BK9789516.out 0).trans rfl; have hcz9534242_1 : w9305642.cell? ⟨gb9789516, 1, none⟩ = some (.slice none 0 0) := (blk_cell BK9789516.out 1).trans rfl; have hfz9534242_0 := blk_frozen BK9789516.out 0; have hfz9534242_1 := blk_frozen BK9789516.out 1) | (have mkq_ := m0_3; clear mkq_; (with_reducible refine gate_callee (f := 39) rfl ?_); refine gc_ 39 11 Tryd.func39 #[.string a0] ?_; (with_reducible refine (spec_l3Parse.calls k a0 t247 _ _ A5.out).mono ?_); rintro e w9305642 ⟨v9936893, rfl, ho0, hb⟩; refine ⟨_, rfl, ?_⟩; have n0_ := a_ (Kd.R_lower ho0 (below_size y20_)); have n1_ := a_ (blk_below (g := gb9789516) (o := .cells #[.int .i64 0, .slice none 0 0] 35 (0, 0)) y22_ hb); have n2_ := a_ (below_step y20_ hb); clear BK9789516; clear HB; have HO9439500 := n0_; have BK9789516 := n1_; have HB := n2_; clear n0_ n1_ n2_; (try clear hb); (try clear hb9807748); (try clear hk); (try clear hi); (try clear ho0); have hcz9991326_0 : w9305642.cell? ⟨gb9789516, 0, none⟩ = some (.int .i64 0) := (blk_cell BK9789516.out 0).trans rfl; have hcz9991326_1 : w9305642.cell? ⟨gb9789516, 1, none⟩ = some (.slice none 0 0) := (blk_cell BK9789516.out 1).trans rfl; have hfz9991326_0 := blk_frozen BK9789516.out 0; have hfz9991326_1 := blk_frozen BK9789516.out 1))
  first
  | fail_if_success clear m0_4
  |(clear m0_4; refine bodyPost_ret (results_cell_row rfl _ _ gb9789516 35 #[.int .i64 2, .slice none 0 0] (0, 0) _ rfl y48_ Tryd.underlying35 rfl y30_) rfl ?_)
  first
  | fail_if_success clear m0_5
  |(clear m0_5; refine bodyPost_ret (results_cell_row rfl _ _ gb9789516 35 #[.int .i64 5, .slice none 0 0] (0, 0) _ rfl y49_ Tryd.underlying35 rfl y30_) rfl ?_)
  first
  | fail_if_success clear m0_6
  |(clear m0_6; exact ⟨_, y6_, y77_, y20_⟩)
  first
  | fail_if_success clear m0_7
  |(clear m0_7; refine bodyPost_ret (results_cell_row rfl _ _ gb9789516 35 #[.int .i64 0, .slice Ao9418115 t247.length co9418115] (0, 0) _ rfl y50_ Tryd.underlying35 rfl y30_) rfl ?_; exact ⟨_, y6_, by (with_reducible repeat (first | apply Kd.R_alloc | apply Kd.R_drewN | apply Kd.R_drew)); exact Kd.R_mono (Kd.R_far (p := ⟨gb9789516, 1, none⟩) (Kd.R_far (p := ⟨gb9789516, 0, none⟩) (Kd.R_types HO9439500.out BK9789516.out y39_) (fun _ hk => hk.2) (.int .i64 0)) (fun _ hk => hk.2) (.slice Ao9418115 t247.length co9418115)) (fun _ hk => trivial), y20_⟩))

/-! ### impl_codeIf: function 33 -/
def impl_codeIf.f (a0 : Bool) (a1 : Int) : Option (Int) := if a0 = true then (some a1) else (some 0)
set_option maxHeartbeats 8000000 in
set_option maxRecDepth 100000 in
theorem impl_codeIf.calls (a0 : Bool) (a1 : Int) (r : Int) (w : World) (h : impl_codeIf.f a0 a1 = some r) :
    Calls Tryd.prog 33 #[.bool a0, .int .i64 a1] w fun e w' => e = .returned (.int .i64 r) ∧ Drawn0 w w' := by
 have H : (if a0 = true then (some a1) else (some 0)) = some r := h; clear h; by_cases c3 : a0 = true
 ·subst c3; rw [if_pos rfl] at H; obtain rfl := Option.some.inj H; go_enter Tryd.func33, Tryd.ntmps33
  go_wp2
  go_ret
  exact ⟨y5_, y8_⟩
 ·replace c3 := Bool.eq_false_iff.mpr c3; subst c3; rw [if_neg (show ¬ (false = true) by decide)] at H; obtain rfl := Option.some.inj H; go_enter Tryd.func33, Tryd.ntmps33
  go_wp2
  go_ret
  exact ⟨y5_, y8_⟩

/-! ### impl_inRange: function 48 -/
def impl_inRange.f (a0 : Int) (a1 : Int) (a2 : Int) : Option (Bool) := if a1 ≤ a0 then (some (decide (a0 ≤ a2))) else (some false)
set_option maxHeartbeats 8000000 in
set_option maxRecDepth 100000 in
theorem impl_inRange.calls (a0 : Int) (a1 : Int) (a2 : Int) (r : Bool) (w : World) (h : impl_inRange.f a0 a1 a2 = some r) :
    Calls Tryd.prog 48 #[.int .i64 a0, .int .i64 a1, .int .i64 a2] w fun e w' => e = .returned (.bool r) ∧ Drawn0 w w' := by
 have H : (if a1 ≤ a0 then (some (decide (a0 ≤ a2))) else (some false)) = some r := h; clear h; by_cases c4 : a1 ≤ a0
 ·rw [if_pos c4] at H; have c4b0 : decide (a1 ≤ a0) = true := decide_eq_true c4; clear c4; obtain rfl := Option.some.inj H; go_enter Tryd.func48, Tryd.ntmps48
  go_wp2
  go_ret
  exact ⟨y5_, y8_⟩
 ·rw [if_neg c4] at H; have c4b0 : decide (a1 ≤ a0) = false := decide_eq_false c4; clear c4; obtain rfl := Option.some.inj H; go_enter Tryd.func48, Tryd.ntmps48
  go_wp2
  go_ret
  exact ⟨y5_, y8_⟩

/-! ### impl_firstCode: function 32 -/
def impl_firstCode.l0 : Nat → List Int → Int → Int → Option (Int)
  | 0, _, _, _ => none
  | k + 1, x5, x6, x7 => if x7 < x6 then (if 0 ≤ x7 then (if x7 < (x5.length : Int) then (if (rd x5 x7) = 0 then (impl_firstCode.l0 k x5 x6 (wrap64 (x7 + 1))) else (some (rd x5 x7))) else (none)) else (none)) else (some 0)
def impl_firstCode.f (k : Nat) (l0 : List Int) : Option (Int) := impl_firstCode.l0 k l0 (l0.length : Int) 0
theorem impl_firstCode.mono_l : ∀ k, (∀ y0 y1 y2, LeO (impl_firstCode.l0 k y0 y1 y2) (impl_firstCode.l0 (k + 1) y0 y1 y2))
  | 0 => fun _ _ _ r h => by simp [impl_firstCode.l0] at h
  | k + 1 => by
    have ih0 := impl_firstCode.mono_l k
    · intro y0 y1 y2
      unfold impl_firstCode.l0
      repeat' (with_reducible first | exact ih0 _ _ _ | exact LeO.refl _ | exact LeO.none _ | refine LeO.ite ?_ ?_ | refine LeO.bind ?_ (fun _ => ?_))
theorem impl_firstCode.mono : ∀ a0 k, LeO (impl_firstCode.f k a0) (impl_firstCode.f (k + 1) a0) := by
  intro a0 k
  have ih0 := impl_firstCode.mono_l k
  unfold impl_firstCode.f
  repeat' (with_reducible first | exact ih0 _ _ _ | exact LeO.refl _ | exact LeO.none _ | refine LeO.ite ?_ ?_ | refine LeO.bind ?_ (fun _ => ?_))
set_option maxHeartbeats 8000000 in
set_option maxRecDepth 100000 in
theorem impl_firstCode.calls (k : Nat) (A0 : Option Addr) (c0 : Nat) (l0 : List Int) (r : Int) (w : World) (hr0 : Kd.C (Kd.int .i64) w A0 l0.length l0) (hc0 : l0.length ≤ c0) (h : impl_firstCode.f k l0 = some r) :
    Calls Tryd.prog 32 #[.slice A0 l0.length c0] w fun e w' => e = .returned (.int .i64 r) ∧ Drawn0 w w' := by
 have HR0 := a_ hr0; have HC0 := a_ hc0; clear hr0 hc0; have H : (impl_firstCode.l0 k l0 (l0.length : Int) 0) = some r := h; clear h; have H' := a_ H; clear H; go_enter Tryd.func32, Tryd.ntmps32
 go_wp2
 go_loopg [7] k (fun kq v7 w' => ∃ (x7_1 : Int), v7 = .int .i64 x7_1 ∧ Aside0 (impl_firstCode.l0 kq l0 (l0.length : Int) x7_1 = some r) ∧ Aside0 (kq ≤ k) ∧ Drawn0 w w')
 case atStart => exact ⟨(0), y5_, H', ⟨Nat.le_refl _⟩, y8_⟩
 case round =>
  clear H'; obtain ⟨x7_1, rfl, HA, HK1, ⟨m1, rfl⟩⟩ := hrel; cases gk with
  | zero => exact absurd HA.out (by simp [impl_firstCode.l0])
  | succ k1 =>
   have H := HA.out; clear HA; simp only [impl_firstCode.l0] at H; by_cases cx0 : x7_1 < (l0.length : Int); rw [if_pos cx0] at H; have cx0b0 : decide (x7_1 < (l0.length : Int)) = true := decide_eq_true cx0; clear cx0; by_cases cx1 : 0 ≤ x7_1; rw [if_pos cx1] at H; have cx1b0 : decide (0 ≤ x7_1) = true := decide_eq_true cx1; clear cx1; by_cases cx2 : x7_1 < (l0.length : Int); rw [if_pos cx2] at H; have cx2b0 : decide (x7_1 < (l0.length : Int)) = true := decide_eq_true cx2; clear cx2; by_cases cx3 : (rd l0 x7_1) = 0; rw [if_pos cx3] at H; have cx3b0 : ((rd l0 x7_1) == 0) = true := beq_iff_eq.mpr cx3; have cx3b1 : ((rd l0 x7_1) != 0) = false := bne_eq_false_iff_eq.mpr cx3; clear cx3; have H' := a_ H; clear H; have m0_0 := t_; have m0_1 := t_; rotate_left; rw [if_neg cx3] at H; have cx3b0 : ((rd l0 x7_1) == 0) = false := beq_eq_false_iff_ne.mpr cx3; have cx3b1 : ((rd l0 x7_1) != 0) = true := bne_iff_ne.mpr cx3; obtain rfl := Option.some.inj H; have m0_0 := t_; have m0_2 := t_; rotate_left
   ·rw [if_neg cx2] at H; exact absurd H y74_
   ·rw [if_neg cx1] at H; exact absurd H y74_
   rw [if_neg cx0] at H; have cx0b0 : decide (x7_1 < (l0.length : Int)) = false := decide_eq_false cx0; clear cx0; obtain rfl := Option.some.inj H; have m0_3 := t_; rotate_left
   all_goals (
    first
    | fail_if_success clear m0_0
    |(clear m0_0; have p9922068 : 0 ≤ (x7_1 : Int) := of_decide_eq_true y4_; have q9922068 : x7_1 < (l0.length : Int) := of_decide_eq_true y4_; obtain ⟨ad9922068, e9922068, hx9922068_0⟩ := Kd.at_int HR0.out x7_1 p9922068 q9922068; cases e9922068; replace p9922068 := eq_true p9922068; replace q9922068 := eq_true q9922068; go_wp2)
    first
    | fail_if_success clear m0_1
    |(clear m0_1; go_roundg k1
      case measure => have := HK1.out; omega
      case rel => exact ⟨(wrap64 (x7_1 + 1)), y5_, H', ⟨by have := HK1.out; omega⟩, y8_⟩)
    first
    | fail_if_success clear m0_2
    |(clear m0_2; go_ret
      exact ⟨y5_, y8_⟩)
    first
    | fail_if_success clear m0_3
    |(clear m0_3; go_wp2
      go_ret
      exact ⟨y5_, y8_⟩))

/-! ### impl_isTwo: function 50 -/
def impl_isTwo.f (a0 : Int) : Option (Bool) := (impl_inRange.f a0 3 9).bind fun t252 => (some t252)
set_option maxHeartbeats 8000000 in
set_option maxRecDepth 100000 in
theorem impl_isTwo.calls (a0 : Int) (r : Bool) (w : World) (h : impl_isTwo.f a0 = some r) :
    Calls Tryd.prog 50 #[.int .i64 a0] w fun e w' => e = .returned (.bool r) ∧ Drawn0 w w' := by
 have H : ((impl_inRange.f a0 3 9).bind fun t252 => (some t252)) = some r := h; clear h; replace H := Option.bind_eq_some_iff.mp H; obtain ⟨t252, A20, H⟩ := H; have A2 := a_ A20; clear A20; obtain rfl := Option.some.inj H; go_enter Tryd.func50, Tryd.ntmps50
 go_wp2_with (first | ((with_reducible refine gate_callee (f := 48) rfl ?_); refine gc_ 48 4 Tryd.func48 #[.int .i64 a0, .int .i64 3, .int .i64 9] ?_; (with_reducible refine (impl_inRange.calls a0 3 9 t252 _ A2.out).mono ?_); rintro e w' ⟨rfl, ⟨nd, rfl⟩⟩; refine ⟨_, rfl, ?_⟩))
 go_ret
 exact ⟨y5_, y8_⟩

end Go.Proofs.YtmppibhdnajjjaaDoor.P
