-- Written by a program of this session's own (xp.py) for this seat.
import Derived.Test.YtbjakfnfjndccaaTZ
import Derived.Test.YtbjakfnfjndccaaT0
namespace Go.Proofs.Ytbjakfnfjndccaa.T
open Go.RowKit Go.Proofs.YtbjakfnfjndccaaW.PrintWords Go.Proofs.YtbjakfnfjndccaaW.PrintLast Go.Proofs.YtbjakfnfjndccaaW.PrintMore
attribute [local go_sem] Instr.field asAgg
attribute [local go_sem] max2_int min2_int max_two min_two max_three min_three max_four min_four   -- for this text's walks alone
set_option linter.unusedVariables false
set_option linter.unusedSimpArgs false

/-! ### laws_eqAttr: function 60 -/
def laws_eqAttr.f (a0_0 : ByteArray) (a0_1 : ByteArray) (a1_0 : ByteArray) (a1_1 : ByteArray) : Option (Bool) := if a0_0.toList = a1_0.toList then (if a0_1.toList = a1_1.toList then (some true) else (some false)) else (some false)
set_option maxHeartbeats 8000000 in
set_option maxRecDepth 100000 in
theorem laws_eqAttr.calls (a0_0 : ByteArray) (a0_1 : ByteArray) (a1_0 : ByteArray) (a1_1 : ByteArray) (r : Bool) (w : World) (h : laws_eqAttr.f a0_0 a0_1 a1_0 a1_1 = some r) :
    Calls Try.prog 60 #[.agg #[.string a0_0, .string a0_1], .agg #[.string a1_0, .string a1_1]] w fun e w' => e = .returned (.bool r) ∧ Below w.heap.size w w' := by
 have hu78 := Try.underlying78; have HB := a_ (Below.refl w.heap.size w); have H : (if a0_0.toList = a1_0.toList then (if a0_1.toList = a1_1.toList then (some true) else (some false)) else (some false)) = some r := h; clear h; by_cases cx0 : a0_0.toList = a1_0.toList; rw [if_pos cx0] at H; have cx0b0 : (a0_0.toList == a1_0.toList) = true := beq_iff_eq.mpr cx0; have cx0b1 : (a0_0.toList != a1_0.toList) = false := bne_eq_false_iff_eq.mpr cx0; clear cx0; by_cases cx1 : a0_1.toList = a1_1.toList; rw [if_pos cx1] at H; have cx1b0 : (a0_1.toList == a1_1.toList) = true := beq_iff_eq.mpr cx1; have cx1b1 : (a0_1.toList != a1_1.toList) = false := bne_eq_false_iff_eq.mpr cx1; clear cx1; obtain rfl := Option.some.inj H; rotate_left; rw [if_neg cx1] at H; have cx1b0 : (a0_1.toList == a1_1.toList) = false := beq_eq_false_iff_ne.mpr cx1; have cx1b1 : (a0_1.toList != a1_1.toList) = true := bne_iff_ne.mpr cx1; obtain rfl := Option.some.inj H; rotate_left; rw [if_neg cx0] at H; have cx0b0 : (a0_0.toList == a1_0.toList) = false := beq_eq_false_iff_ne.mpr cx0; have cx0b1 : (a0_0.toList != a1_0.toList) = true := bne_iff_ne.mpr cx0; obtain rfl := Option.some.inj H; rotate_left
 all_goals (
  go_enter Try.func60, Try.ntmps60
  go_wp2_with (first | ((with_reducible refine gate_dst (N := 2) rfl ?_); refine box_event zr_ (N := 2) zr_ (cs := #[.string a0_0, .string a0_1]) (t := 78) zs_ ?_; intro gb9896572 hg w9308831 hbox hb; have n0_ := a_ (below_step y0_ hb); have n1_ := a_ (hbox); have n2_ := a_ ((by rw [hg]; exact (below_size y0_) : w.heap.size ≤ gb9896572)); have n3_ := a_ ((by rw [hg]; exact (below_size y0_) : w.heap.size ≤ gb9896572)); clear HB; have HB := n0_; have BK9896572 := n1_; have GW9896572 := n2_; have GE9896572 := n3_; clear n0_ n1_ n2_ n3_; clear hb hbox hg) | ((with_reducible refine gate_dst (N := 3) rfl ?_); refine box_event zr_ (N := 3) zr_ (cs := #[.string a1_0, .string a1_1]) (t := 78) zs_ ?_; intro gb9423130 hg w9457855 hbox hb; have n0_ := a_ (blk_below (g := gb9896572) (o := .cells #[.string a0_0, .string a0_1] 78 (0, 0)) y105_ hb); have n1_ := a_ (below_step y91_ hb); have n2_ := a_ (hbox); have n3_ := a_ ((by rw [hg]; exact (below_size y91_) : w.heap.size ≤ gb9423130)); have n4_ := a_ ((by rw [hg]; exact (below_size y91_) : w.heap.size ≤ gb9423130)); have n5_ := a_ ((by rw [hg]; exact Nat.ne_of_lt (blk_lt (g := gb9896572) (o := .cells #[.string a0_0, .string a0_1] 78 (0, 0)) y105_) : gb9896572 ≠ gb9423130)); have n6_ := a_ ((by rw [hg]; exact Nat.ne_of_gt (blk_lt (g := gb9896572) (o := .cells #[.string a0_0, .string a0_1] 78 (0, 0)) y105_) : gb9423130 ≠ gb9896572)); clear BK9896572; clear HB; have BK9896572 := n0_; have HB := n1_; have BK9423130 := n2_; have GW9423130 := n3_; have GE9423130 := n4_; have NB262_263 := n5_; have NB263_262 := n6_; clear n0_ n1_ n2_ n3_ n4_ n5_ n6_; clear hb hbox hg; have hnb9782658 := NB262_263.out; have hnc9782658 := NB263_262.out; have hcz9921912_0 : w9457855.cell? ⟨gb9896572, 0, none⟩ = some (.string a0_0) := (blk_cell BK9896572.out 0).trans rfl; have hcz9921912_1 : w9457855.cell? ⟨gb9896572, 1, none⟩ = some (.string a0_1) := (blk_cell BK9896572.out 1).trans rfl; have hfz9921912_0 := blk_frozen BK9896572.out 0; have hfz9921912_1 := blk_frozen BK9896572.out 1; have hcz9122178_0 : w9457855.cell? ⟨gb9423130, 0, none⟩ = some (.string a1_0) := (blk_cell BK9423130.out 0).trans rfl; have hcz9122178_1 : w9457855.cell? ⟨gb9423130, 1, none⟩ = some (.string a1_1) := (blk_cell BK9423130.out 1).trans rfl; have hfz9122178_0 := blk_frozen BK9423130.out 0; have hfz9122178_1 := blk_frozen BK9423130.out 1))
  go_ret
  exact ⟨y4_, by repeat (first | (with_reducible first | exact HB.out | apply below_alloc | apply pw_below_drewN | apply below_drew1 | refine below_set ?_ GE9896572.out | refine below_set ?_ GE9423130.out) | exact HB.out)⟩)

/-! ### laws_eqAttrS: function 52 -/
def laws_eqAttrS.l0 : Nat → List (S78) → List (S78) → Int → Option (Bool)
  | 0, _, _, _ => none
  | k + 1, x0, x1, x5 => if x5 < (x0.length : Int) then (if 0 ≤ x5 then (if x5 < (x1.length : Int) then ((laws_eqAttr.f ((rd_T78 x0 x5).f0) ((rd_T78 x0 x5).f1) ((rd_T78 x1 x5).f0) ((rd_T78 x1 x5).f1)).bind fun t266 => (if t266 = true then (laws_eqAttrS.l0 k x0 x1 (wrap64 (x5 + 1))) else (some false))) else (none)) else (none)) else (some true)
def laws_eqAttrS.f (k : Nat) (l0 : List (S78)) (l1 : List (S78)) : Option (Bool) := if (l0.length : Int) = (l1.length : Int) then (laws_eqAttrS.l0 k l0 l1 0) else (some false)
theorem laws_eqAttrS.mono_l : ∀ k, (∀ y0 y1 y2, LeO (laws_eqAttrS.l0 k y0 y1 y2) (laws_eqAttrS.l0 (k + 1) y0 y1 y2))
  | 0 => fun _ _ _ r h => by simp [laws_eqAttrS.l0] at h
  | k + 1 => by
    have ih0 := laws_eqAttrS.mono_l k
    · intro y0 y1 y2
      unfold laws_eqAttrS.l0
      repeat' (with_reducible first | exact ih0 _ _ _ | exact LeO.refl _ | exact LeO.none _ | refine LeO.ite ?_ ?_ | refine LeO.bind ?_ (fun _ => ?_))
theorem laws_eqAttrS.mono : ∀ a0 a1 k, LeO (laws_eqAttrS.f k a0 a1) (laws_eqAttrS.f (k + 1) a0 a1) := by
  intro a0 a1 k
  have ih0 := laws_eqAttrS.mono_l k
  unfold laws_eqAttrS.f
  repeat' (with_reducible first | exact ih0 _ _ _ | exact LeO.refl _ | exact LeO.none _ | refine LeO.ite ?_ ?_ | refine LeO.bind ?_ (fun _ => ?_))
def laws_eqAttrS.T6 : Bool × List (List Nat × List Nat) := (true, [([], []), ([], []), ([0, 1], [0, 1]), ([2], [2]), ([], []), ([], []), ([4, 5], [4, 5]), ([6], [6]), ([3, 7], [3, 7]), ([8], [8])])
def laws_eqAttrS.B6 : List Nat := [0, 0, 3, 7, 0, 0, 48, 112, 255, 511]
theorem laws_eqAttrS.tab6 : rtab .any (opsOf Try.f52 6) = laws_eqAttrS.T6 := by kernel_rfl
theorem laws_eqAttrS.bits6 : waitsOk laws_eqAttrS.T6.2 laws_eqAttrS.B6 = true := by kernel_rfl
set_option maxHeartbeats 8000000 in
set_option maxRecDepth 100000 in
theorem laws_eqAttrS.calls (k : Nat) (A0 : Option Addr) (c0 : Nat) (l0 : List (S78)) (A1 : Option Addr) (c1 : Nat) (l1 : List (S78)) (r : Bool) (w : World) (hr0 : Kd.C k78 w A0 l0.length l0) (hc0 : l0.length ≤ c0) (hr1 : Kd.C k78 w A1 l1.length l1) (hc1 : l1.length ≤ c1) (h : laws_eqAttrS.f k l0 l1 = some r) :
    Calls Try.prog 52 #[.slice A0 l0.length c0, .slice A1 l1.length c1] w fun e w' => e = .returned (.bool r) ∧ Below w.heap.size w w' := by
 have hu78 := Try.underlying78; have HR0 := a_ hr0; have HC0 := a_ hc0; clear hr0 hc0; have HR1 := a_ hr1; have HC1 := a_ hc1; clear hr1 hc1; have HB := a_ (Below.refl w.heap.size w); have H : (if (l0.length : Int) = (l1.length : Int) then (laws_eqAttrS.l0 k l0 l1 0) else (some false)) = some r := h; clear h; by_cases cx0 : (l0.length : Int) = (l1.length : Int)
 ·rw [if_pos cx0] at H; have cx0b0 : ((l0.length : Int) == (l1.length : Int)) = true := beq_iff_eq.mpr cx0; have cx0b1 : ((l0.length : Int) != (l1.length : Int)) = false := bne_eq_false_iff_eq.mpr cx0; have cx0b2 : (l0.length == l1.length) = true := by first | simpa using cx0 | (simp at cx0 ⊢; omega)
  clear cx0; have H' := a_ H; clear H; go_enter Try.func52, Try.ntmps52
  go_wp2
  go_loopg [5] k (fun kq v5 w' => ∃ (x5_1 : Int), v5 = .int .i64 x5_1 ∧ Aside0 (laws_eqAttrS.l0 kq l0 l1 x5_1 = some r) ∧ Aside0 (kq ≤ k) ∧ Aside0 (Below w.heap.size w w'))
  case atStart => exact ⟨(0), y3_, H', ⟨Nat.le_refl _⟩, ⟨y0_⟩⟩
  case round =>
   clear H'; (try clear cx0); (try clear cx0b0); (try clear cx0b1); (try clear cx0b2); obtain ⟨x5_1, rfl, HA, HK1, HB⟩ := hrel; cases gk with
   | zero => exact absurd HA.out (by simp [laws_eqAttrS.l0])
   | succ k1 =>
    have H := HA.out; clear HA; simp only [laws_eqAttrS.l0] at H; by_cases cx1 : x5_1 < (l0.length : Int); rw [if_pos cx1] at H; have cx1b0 : decide (x5_1 < (l0.length : Int)) = true := decide_eq_true cx1; clear cx1; by_cases cx2 : 0 ≤ x5_1; rw [if_pos cx2] at H; have cx2b0 : decide (0 ≤ x5_1) = true := decide_eq_true cx2; clear cx2; by_cases cx3 : x5_1 < (l1.length : Int); rw [if_pos cx3] at H; have cx3b0 : decide (x5_1 < (l1.length : Int)) = true := decide_eq_true cx3; clear cx3; replace H := Option.bind_eq_some_iff.mp H; obtain ⟨tx4, Ay4, H⟩ := H; have Ax4 := a_ Ay4; clear Ay4; by_cases cx5 : tx4 = true; subst cx5; rw [if_pos rfl] at H; have H' := a_ H; clear H; have m1_0 := t_; have m1_1 := t_; rotate_left; replace cx5 := Bool.eq_false_iff.mpr cx5; subst cx5; rw [if_neg (show ¬ (false = true) by decide)] at H; obtain rfl := Option.some.inj H; have m1_0 := t_; have m1_2 := t_; rotate_left
    ·rw [if_neg cx3] at H; exact absurd H y100_
    ·rw [if_neg cx2] at H; exact absurd H y100_
    rw [if_neg cx1] at H; have cx1b0 : decide (x5_1 < (l0.length : Int)) = false := decide_eq_false cx1; clear cx1; obtain rfl := Option.some.inj H; have m1_3 := t_; rotate_left
    all_goals (
     first
     | fail_if_success clear m1_0
     |(clear m1_0; try go_wp2
       have n0_ := a_ (below_drew1 HB.out); clear HB; have HB := n0_; clear n0_; have p9922068 : 0 ≤ (x5_1 : Int) := of_decide_eq_true y2_; have q9922068 : x5_1 < (l0.length : Int) := of_decide_eq_true y2_; obtain ⟨ad9922068, e9922068, hx9922068_0, hx9922068_1⟩ := at_T78 HR0.out x5_1 p9922068 q9922068; have hw9922068_1 := hx9922068_1; have hw9922068_0 := hx9922068_0; cases e9922068; replace hx9922068_0 := cT_ HB.out hx9922068_0; replace hx9922068_1 := cT_ HB.out hx9922068_1; replace p9922068 := eq_true p9922068; replace q9922068 := eq_true q9922068; have p9548309 : 0 ≤ (x5_1 : Int) := of_decide_eq_true y2_; have q9548309 : x5_1 < (l1.length : Int) := of_decide_eq_true y2_; obtain ⟨ad9548309, e9548309, hx9548309_0, hx9548309_1⟩ := at_T78 HR1.out x5_1 p9548309 q9548309; have hw9548309_1 := hx9548309_1; have hw9548309_0 := hx9548309_0; cases e9548309; replace hx9548309_0 := cT_ HB.out hx9548309_0; replace hx9548309_1 := cT_ HB.out hx9548309_1; replace p9548309 := eq_true p9548309; replace q9548309 := eq_true q9548309; refine start_ (n := 10) (S := fun w' => w'.cell? (ad9922068.add ((x5_1).toNat * 2)) = some (.string ((rd_T78 l0 x5_1).f0)) ∧ w'.cell? ⟨(ad9922068.add ((x5_1).toNat * 2)).block, (ad9922068.add ((x5_1).toNat * 2)).off + 1, none⟩ = some (.string ((rd_T78 l0 x5_1).f1)) ∧ w'.cell? (ad9548309.add ((x5_1).toNat * 2)) = some (.string ((rd_T78 l1 x5_1).f0)) ∧ w'.cell? ⟨(ad9548309.add ((x5_1).toNat * 2)).block, (ad9548309.add ((x5_1).toNat * 2)).off + 1, none⟩ = some (.string ((rd_T78 l1 x5_1).f1))) (ds := []) #[F_,F_,F_,F_,F_,F_,F_,F_,F_,F_] y35_ rfl rfl ⟨(cT_ HB.out hw9922068_0 :), (cT_ HB.out hw9922068_1 :), (cT_ HB.out hw9548309_0 :), (cT_ HB.out hw9548309_1 :)⟩ (fun hHeld => ?_); refine with_tabW laws_eqAttrS.tab6 laws_eqAttrS.bits6 (fun HT_ HW_ => ?_); generalize wr.drew = w9497698 at HB hx9922068_0 hx9922068_1 hx9548309_0 hx9548309_1 hHeld ⊢; refine pure_ (i := 0) (N := some 17) #[T_,F_,F_,F_,F_,F_,F_,F_,F_,F_] rfl rfl z1_ (fun _ _ _ h => h) (Or.inl ⟨rfl, z2_⟩) z3_ ?_; refine pure_ (i := 1) (N := some 18) #[T_,T_,F_,F_,F_,F_,F_,F_,F_,F_] rfl rfl z1_ (fun _ _ _ h => h) (Or.inl ⟨rfl, z2_⟩) z3_ ?_; refine pure_ (i := 2) (N := some 19) #[T_,T_,T_,F_,F_,F_,F_,F_,F_,F_] rfl rfl z1_ (fun _ _ _ h => h) (Or.inl ⟨rfl, z2_⟩) z3_ ?_; refine pure_ (i := 4) (N := some 21) #[T_,T_,T_,F_,T_,F_,F_,F_,F_,F_] rfl rfl z1_ (fun _ _ _ h => h) (Or.inl ⟨rfl, z2_⟩) z3_ ?_
       refine pure_ (i := 5) (N := some 22) #[T_,T_,T_,F_,T_,T_,F_,F_,F_,F_] rfl rfl z1_ (fun _ _ _ h => h) (Or.inl ⟨rfl, z2_⟩) z3_ ?_; refine pure_ (i := 6) (N := some 23) #[T_,T_,T_,F_,T_,T_,T_,F_,F_,F_] rfl rfl z1_ (fun _ _ _ h => h) (Or.inl ⟨rfl, z2_⟩) z3_ ?_; refine take_ (i := 3) (N := some 20) #[T_,T_,T_,T_,T_,T_,T_,F_,F_,F_] rfl rfl z4_ (fun _ _ _ h => h) (Or.inl ⟨rfl, z24_⟩) hHeld z3_ ?_; refine take_ (i := 7) (N := some 24) #[T_,T_,T_,T_,T_,T_,T_,T_,F_,F_] rfl rfl z4_ (fun _ _ _ h => h) (Or.inl ⟨rfl, z24_⟩) hHeld z3_ ?_; refine one_ (i := 8) (N := some 25) #[T_,T_,T_,T_,T_,T_,T_,T_,T_,F_] rfl rfl (one_of HT_.out y35_) y49_ (fun K hK => ?_); refine goes_ Try.func60 y35_ rfl #[.agg #[.string ((rd_T78 l0 x5_1).f0), .string ((rd_T78 l0 x5_1).f1)], .agg #[.string ((rd_T78 l1 x5_1).f0), .string ((rd_T78 l1 x5_1).f1)]] (by rfl) rfl rfl y13_ ?_; with_reducible refine (laws_eqAttr.calls ((rd_T78 l0 x5_1).f0) ((rd_T78 l0 x5_1).f1) ((rd_T78 l1 x5_1).f0) ((rd_T78 l1 x5_1).f1) _ _ Ax4.out).mono ?_
       rintro e w9985327 ⟨rfl, hb⟩; refine ⟨_, rfl, ?_⟩; have n0_ := a_ (below_step y0_ hb); clear HB; have HB := n0_; clear n0_; (try clear hb); (try clear hb9800335); (try clear hk); (try clear hi); refine hK.out _ _ ⟨(cT_ HB.out hw9922068_0 :), (cT_ HB.out hw9922068_1 :), (cT_ HB.out hw9548309_0 :), (cT_ HB.out hw9548309_1 :)⟩ (fun hHeld => ?_); clear hK K; refine norm_ z14_ ?_; refine pure_ (i := 9) (N := some 26) #[T_,T_,T_,T_,T_,T_,T_,T_,T_,T_] rfl rfl z1_ (fun _ _ _ h => h) (Or.inl ⟨rfl, z2_⟩) z3_ ?_; refine done_ (done_of HT_.out y35_) ?_; try go_wp2)
     first
     | fail_if_success clear m1_1
     |(clear m1_1; go_roundg k1
       case measure => have := HK1.out; omega
       case rel => exact ⟨(wrap64 (x5_1 + 1)), y3_, H', ⟨y48_⟩, ⟨y0_⟩⟩)
     first
     | fail_if_success clear m1_2
     |(clear m1_2; go_ret
       exact ⟨y4_, y0_⟩)
     first
     | fail_if_success clear m1_3
     |(clear m1_3; go_wp2
       go_ret
       exact ⟨y4_, y0_⟩))
 ·rw [if_neg cx0] at H; have cx0b0 : ((l0.length : Int) == (l1.length : Int)) = false := beq_eq_false_iff_ne.mpr cx0; have cx0b1 : ((l0.length : Int) != (l1.length : Int)) = true := bne_iff_ne.mpr cx0; have cx0b2 : (l0.length == l1.length) = false := by first | simpa using cx0 | (simp at cx0 ⊢; omega)
  obtain rfl := Option.some.inj H; go_enter Try.func52, Try.ntmps52
  go_wp2
  go_ret
  exact ⟨y4_, y0_⟩

/-! ### laws_eqElem: function 30 -/
def laws_eqElem.f (k : Nat) (a0_0 : ByteArray) (a0_1 : Int) (l0_2 : List (S78)) (a1_0 : ByteArray) (a1_1 : Int) (l1_2 : List (S78)) : Option (Bool) := if a0_0.toList = a1_0.toList then (if a0_1 = a1_1 then ((laws_eqAttrS.f k l0_2 l1_2).bind fun t269 => (if t269 = true then (some true) else (some false))) else (some false)) else (some false)
theorem laws_eqElem.mono : ∀ a0 a1 a2 a3 a4 a5 k, LeO (laws_eqElem.f k a0 a1 a2 a3 a4 a5) (laws_eqElem.f (k + 1) a0 a1 a2 a3 a4 a5) := by
  intro a0 a1 a2 a3 a4 a5 k
  unfold laws_eqElem.f
  repeat' (with_reducible first | exact laws_eqAttrS.mono _ _ _ | exact LeO.refl _ | exact LeO.none _ | refine LeO.ite ?_ ?_ | refine LeO.bind ?_ (fun _ => ?_))
set_option maxHeartbeats 8000000 in
set_option maxRecDepth 100000 in
theorem laws_eqElem.calls (k : Nat) (a0_0 : ByteArray) (a0_1 : Int) (A0_2 : Option Addr) (c0_2 : Nat) (l0_2 : List (S78)) (a1_0 : ByteArray) (a1_1 : Int) (A1_2 : Option Addr) (c1_2 : Nat) (l1_2 : List (S78)) (r : Bool) (w : World) (hr0_2 : Kd.C k78 w A0_2 l0_2.length l0_2) (hc0_2 : l0_2.length ≤ c0_2) (hr1_2 : Kd.C k78 w A1_2 l1_2.length l1_2) (hc1_2 : l1_2.length ≤ c1_2) (h : laws_eqElem.f k a0_0 a0_1 l0_2 a1_0 a1_1 l1_2 = some r) :
    Calls Try.prog 30 #[.agg #[.string a0_0, .int .i64 a0_1, .slice A0_2 l0_2.length c0_2], .agg #[.string a1_0, .int .i64 a1_1, .slice A1_2 l1_2.length c1_2]] w fun e w' => e = .returned (.bool r) ∧ Below w.heap.size w w' := by
 have hu48 := Try.underlying48; have HR0_2 := a_ hr0_2; have HC0_2 := a_ hc0_2; clear hr0_2 hc0_2; have HR1_2 := a_ hr1_2; have HC1_2 := a_ hc1_2; clear hr1_2 hc1_2; have HB := a_ (Below.refl w.heap.size w); have H : (if a0_0.toList = a1_0.toList then (if a0_1 = a1_1 then ((laws_eqAttrS.f k l0_2 l1_2).bind fun t269 => (if t269 = true then (some true) else (some false))) else (some false)) else (some false)) = some r := h; clear h; by_cases cx0 : a0_0.toList = a1_0.toList; rw [if_pos cx0] at H; have cx0b0 : (a0_0.toList == a1_0.toList) = true := beq_iff_eq.mpr cx0; have cx0b1 : (a0_0.toList != a1_0.toList) = false := bne_eq_false_iff_eq.mpr cx0; clear cx0; by_cases cx1 : a0_1 = a1_1; rw [if_pos cx1] at H; have cx1b0 : (a0_1 == a1_1) = true := beq_iff_eq.mpr cx1; have cx1b1 : (a0_1 != a1_1) = false := bne_eq_false_iff_eq.mpr cx1; clear cx1; replace H := Option.bind_eq_some_iff.mp H; obtain ⟨tx2, Ay2, H⟩ := H; have Ax2 := a_ Ay2; clear Ay2; by_cases cx3 : tx2 = true; subst cx3; rw [if_pos rfl] at H; obtain rfl := Option.some.inj H; rotate_left; replace cx3 := Bool.eq_false_iff.mpr cx3; subst cx3; rw [if_neg (show ¬ (false = true) by decide)] at H; obtain rfl := Option.some.inj H; rotate_left; rw [if_neg cx1] at H; have cx1b0 : (a0_1 == a1_1) = false := beq_eq_false_iff_ne.mpr cx1; have cx1b1 : (a0_1 != a1_1) = true := bne_iff_ne.mpr cx1; obtain rfl := Option.some.inj H; rotate_left; rw [if_neg cx0] at H; have cx0b0 : (a0_0.toList == a1_0.toList) = false := beq_eq_false_iff_ne.mpr cx0; have cx0b1 : (a0_0.toList != a1_0.toList) = true := bne_iff_ne.mpr cx0; obtain rfl := Option.some.inj H; rotate_left
 all_goals (
  go_enter Try.func30, Try.ntmps30
  go_wp2_with (first | ((with_reducible refine gate_dst (N := 2) rfl ?_); refine box_event zr_ (N := 2) zr_ (cs := #[.string a0_0, .int .i64 a0_1, .slice A0_2 l0_2.length c0_2]) (t := 48) zs_ ?_; intro gb9113967 hg w9228080 hbox hb; have n0_ := a_ (below_step y0_ hb); have n1_ := a_ (hbox); have n2_ := a_ ((by rw [hg]; exact (below_size y0_) : w.heap.size ≤ gb9113967)); have n3_ := a_ ((by rw [hg]; exact (below_size y0_) : w.heap.size ≤ gb9113967)); clear HB; have HB := n0_; have BK9113967 := n1_; have GW9113967 := n2_; have GE9113967 := n3_; clear n0_ n1_ n2_ n3_; clear hb hbox hg) | ((with_reducible refine gate_dst (N := 3) rfl ?_); refine box_event zr_ (N := 3) zr_ (cs := #[.string a1_0, .int .i64 a1_1, .slice A1_2 l1_2.length c1_2]) (t := 48) zs_ ?_; intro gb9858625 hg w9860140 hbox hb; have n0_ := a_ (blk_below (g := gb9113967) (o := .cells #[.string a0_0, .int .i64 a0_1, .slice A0_2 l0_2.length c0_2] 48 (0, 0)) y80_ hb); have n1_ := a_ (below_step y92_ hb); have n2_ := a_ (hbox); have n3_ := a_ ((by rw [hg]; exact (below_size y92_) : w.heap.size ≤ gb9858625)); have n4_ := a_ ((by rw [hg]; exact (below_size y92_) : w.heap.size ≤ gb9858625)); have n5_ := a_ ((by rw [hg]; exact Nat.ne_of_lt (blk_lt (g := gb9113967) (o := .cells #[.string a0_0, .int .i64 a0_1, .slice A0_2 l0_2.length c0_2] 48 (0, 0)) y80_) : gb9113967 ≠ gb9858625)); have n6_ := a_ ((by rw [hg]; exact Nat.ne_of_gt (blk_lt (g := gb9113967) (o := .cells #[.string a0_0, .int .i64 a0_1, .slice A0_2 l0_2.length c0_2] 48 (0, 0)) y80_) : gb9858625 ≠ gb9113967)); clear BK9113967; clear HB; have BK9113967 := n0_; have HB := n1_; have BK9858625 := n2_; have GW9858625 := n3_; have GE9858625 := n4_; have NB267_268 := n5_; have NB268_267 := n6_; clear n0_ n1_ n2_ n3_ n4_ n5_ n6_; clear hb hbox hg; have hnb9921168 := NB267_268.out; have hnc9921168 := NB268_267.out; have hcz9036814_0 : w9860140.cell? ⟨gb9113967, 0, none⟩ = some (.string a0_0) := (blk_cell BK9113967.out 0).trans rfl; have hcz9036814_1 : w9860140.cell? ⟨gb9113967, 1, none⟩ = some (.int .i64 a0_1) := (blk_cell BK9113967.out 1).trans rfl; have hcz9036814_2 : w9860140.cell? ⟨gb9113967, 2, none⟩ = some (.slice A0_2 l0_2.length c0_2) := (blk_cell BK9113967.out 2).trans rfl; have hfz9036814_0 := blk_frozen BK9113967.out 0; have hfz9036814_1 := blk_frozen BK9113967.out 1; have hfz9036814_2 := blk_frozen BK9113967.out 2; have hcz9005781_0 : w9860140.cell? ⟨gb9858625, 0, none⟩ = some (.string a1_0) := (blk_cell BK9858625.out 0).trans rfl; have hcz9005781_1 : w9860140.cell? ⟨gb9858625, 1, none⟩ = some (.int .i64 a1_1) := (blk_cell BK9858625.out 1).trans rfl; have hcz9005781_2 : w9860140.cell? ⟨gb9858625, 2, none⟩ = some (.slice A1_2 l1_2.length c1_2) := (blk_cell BK9858625.out 2).trans rfl; have hfz9005781_0 := blk_frozen BK9858625.out 0; have hfz9005781_1 := blk_frozen BK9858625.out 1; have hfz9005781_2 := blk_frozen BK9858625.out 2) | ((with_reducible refine gate_callee (f := 52) rfl ?_); refine gc_ 52 19 Try.func52 #[.slice A0_2 l0_2.length c0_2, .slice A1_2 l1_2.length c1_2] ?_; (with_reducible refine (laws_eqAttrS.calls k _ _ l0_2 _ _ l1_2 _ _ ?side1 ?side2 ?side3 ?side4 Ax2.out).mono ?_); (case side1 => repeat (first | exact (Kd.C_below HR0_2.out HB.out) | (with_reducible refine Kd.C_alloc ?_ _) | (with_reducible refine Kd.C_drewN ?_ _) | (with_reducible refine Kd.C_drew ?_))); (case side2 => exact HC0_2.out); (case side3 => repeat (first | exact (Kd.C_below HR1_2.out HB.out) | (with_reducible refine Kd.C_alloc ?_ _) | (with_reducible refine Kd.C_drewN ?_ _) | (with_reducible refine Kd.C_drew ?_))); (case side4 => exact HC1_2.out); rintro e w9672377 ⟨rfl, hb⟩; refine ⟨_, rfl, ?_⟩; have n0_ := a_ (blk_below (g := gb9113967) (o := .cells #[.string a0_0, .int .i64 a0_1, .slice A0_2 l0_2.length c0_2] 48 (0, 0)) y80_ hb); have n1_ := a_ (blk_below (g := gb9858625) (o := .cells #[.string a1_0, .int .i64 a1_1, .slice A1_2 l1_2.length c1_2] 48 (0, 0)) (by (with_reducible repeat (first | refine blk_drewN ?_ _ | refine blk_drew ?_ | refine blk_alloc ?_ _)); exact BK9858625.out) hb); have n2_ := a_ (below_step y115_ hb); clear BK9113967; clear BK9858625; clear HB; have BK9113967 := n0_; have BK9858625 := n1_; have HB := n2_; clear n0_ n1_ n2_; (try clear hb); (try clear hb9526938); (try clear hk); (try clear hi)))
  go_ret
  exact ⟨y4_, y115_⟩)

/-! ### laws_eqElemS: function 10 -/
def laws_eqElemS.l0 : Nat → List (S48) → List (S48) → Int → Option (Bool)
  | 0, _, _, _ => none
  | k + 1, x0, x1, x5 => if x5 < (x0.length : Int) then (if 0 ≤ x5 then (if x5 < (x1.length : Int) then ((laws_eqElem.f k ((rd_T48 x0 x5).f0) ((rd_T48 x0 x5).f1) ((rd_T48 x0 x5).f2) ((rd_T48 x1 x5).f0) ((rd_T48 x1 x5).f1) ((rd_T48 x1 x5).f2)).bind fun t272 => (if t272 = true then (laws_eqElemS.l0 k x0 x1 (wrap64 (x5 + 1))) else (some false))) else (none)) else (none)) else (some true)
def laws_eqElemS.f (k : Nat) (l0 : List (S48)) (l1 : List (S48)) : Option (Bool) := if (l0.length : Int) = (l1.length : Int) then (laws_eqElemS.l0 k l0 l1 0) else (some false)
theorem laws_eqElemS.mono_l : ∀ k, (∀ y0 y1 y2, LeO (laws_eqElemS.l0 k y0 y1 y2) (laws_eqElemS.l0 (k + 1) y0 y1 y2))
  | 0 => fun _ _ _ r h => by simp [laws_eqElemS.l0] at h
  | k + 1 => by
    have ih0 := laws_eqElemS.mono_l k
    · intro y0 y1 y2
      unfold laws_eqElemS.l0
      repeat' (with_reducible first | exact ih0 _ _ _ | exact laws_eqElem.mono _ _ _ _ _ _ _ | exact LeO.refl _ | exact LeO.none _ | refine LeO.ite ?_ ?_ | refine LeO.bind ?_ (fun _ => ?_))
theorem laws_eqElemS.mono : ∀ a0 a1 k, LeO (laws_eqElemS.f k a0 a1) (laws_eqElemS.f (k + 1) a0 a1) := by
  intro a0 a1 k
  have ih0 := laws_eqElemS.mono_l k
  unfold laws_eqElemS.f
  repeat' (with_reducible first | exact ih0 _ _ _ | exact laws_eqElem.mono _ _ _ _ _ _ _ | exact LeO.refl _ | exact LeO.none _ | refine LeO.ite ?_ ?_ | refine LeO.bind ?_ (fun _ => ?_))
def laws_eqElemS.T6 : Bool × List (List Nat × List Nat) := (true, [([], []), ([], []), ([0, 1], [0, 1]), ([2], [2]), ([], []), ([], []), ([4, 5], [4, 5]), ([6], [6]), ([3, 7], [3, 7]), ([8], [8])])
def laws_eqElemS.B6 : List Nat := [0, 0, 3, 7, 0, 0, 48, 112, 255, 511]
theorem laws_eqElemS.tab6 : rtab .any (opsOf Try.f10 6) = laws_eqElemS.T6 := by kernel_rfl
theorem laws_eqElemS.bits6 : waitsOk laws_eqElemS.T6.2 laws_eqElemS.B6 = true := by kernel_rfl
set_option maxHeartbeats 8000000 in
set_option maxRecDepth 100000 in
theorem laws_eqElemS.calls (k : Nat) (A0 : Option Addr) (c0 : Nat) (l0 : List (S48)) (A1 : Option Addr) (c1 : Nat) (l1 : List (S48)) (r : Bool) (w : World) (hr0 : Kd.C k48 w A0 l0.length l0) (hc0 : l0.length ≤ c0) (hr1 : Kd.C k48 w A1 l1.length l1) (hc1 : l1.length ≤ c1) (h : laws_eqElemS.f k l0 l1 = some r) :
    Calls Try.prog 10 #[.slice A0 l0.length c0, .slice A1 l1.length c1] w fun e w' => e = .returned (.bool r) ∧ Below w.heap.size w w' := by
 have hu48 := Try.underlying48; have HR0 := a_ hr0; have HC0 := a_ hc0; clear hr0 hc0; have HR1 := a_ hr1; have HC1 := a_ hc1; clear hr1 hc1; have HB := a_ (Below.refl w.heap.size w); have H : (if (l0.length : Int) = (l1.length : Int) then (laws_eqElemS.l0 k l0 l1 0) else (some false)) = some r := h; clear h; by_cases cx0 : (l0.length : Int) = (l1.length : Int)
 ·rw [if_pos cx0] at H; have cx0b0 : ((l0.length : Int) == (l1.length : Int)) = true := beq_iff_eq.mpr cx0; have cx0b1 : ((l0.length : Int) != (l1.length : Int)) = false := bne_eq_false_iff_eq.mpr cx0; have cx0b2 : (l0.length == l1.length) = true := by first | simpa using cx0 | (simp at cx0 ⊢; omega)
  clear cx0; have H' := a_ H; clear H; go_enter Try.func10, Try.ntmps10
  go_wp2
  go_loopg [5] k (fun kq v5 w' => ∃ (x5_1 : Int), v5 = .int .i64 x5_1 ∧ Aside0 (laws_eqElemS.l0 kq l0 l1 x5_1 = some r) ∧ Aside0 (kq ≤ k) ∧ Aside0 (Below w.heap.size w w'))
  case atStart => exact ⟨(0), y3_, H', ⟨Nat.le_refl _⟩, ⟨y0_⟩⟩
  case round =>
   clear H'; (try clear cx0); (try clear cx0b0); (try clear cx0b1); (try clear cx0b2); obtain ⟨x5_1, rfl, HA, HK1, HB⟩ := hrel; cases gk with
   | zero => exact absurd HA.out (by simp [laws_eqElemS.l0])
   | succ k1 =>
    have H := HA.out; clear HA; simp only [laws_eqElemS.l0] at H; by_cases cx1 : x5_1 < (l0.length : Int); rw [if_pos cx1] at H; have cx1b0 : decide (x5_1 < (l0.length : Int)) = true := decide_eq_true cx1; clear cx1; by_cases cx2 : 0 ≤ x5_1; rw [if_pos cx2] at H; have cx2b0 : decide (0 ≤ x5_1) = true := decide_eq_true cx2; clear cx2; by_cases cx3 : x5_1 < (l1.length : Int); rw [if_pos cx3] at H; have cx3b0 : decide (x5_1 < (l1.length : Int)) = true := decide_eq_true cx3; clear cx3; replace H := Option.bind_eq_some_iff.mp H; obtain ⟨tx4, Ay4, H⟩ := H; have Ax4 := a_ Ay4; clear Ay4; by_cases cx5 : tx4 = true; subst cx5; rw [if_pos rfl] at H; have H' := a_ H; clear H; have m1_0 := t_; have m1_1 := t_; rotate_left; replace cx5 := Bool.eq_false_iff.mpr cx5; subst cx5; rw [if_neg (show ¬ (false = true) by decide)] at H; obtain rfl := Option.some.inj H; have m1_0 := t_; have m1_2 := t_; rotate_left
    ·rw [if_neg cx3] at H; exact absurd H y100_
    ·rw [if_neg cx2] at H; exact absurd H y100_
    rw [if_neg cx1] at H; have cx1b0 : decide (x5_1 < (l0.length : Int)) = false := decide_eq_false cx1; clear cx1; obtain rfl := Option.some.inj H; have m1_3 := t_; rotate_left
    all_goals (
     first
     | fail_if_success clear m1_0
     |(clear m1_0; try go_wp2
       have n0_ := a_ (below_drew1 HB.out); clear HB; have HB := n0_; clear n0_; have p9922068 : 0 ≤ (x5_1 : Int) := of_decide_eq_true y2_; have q9922068 : x5_1 < (l0.length : Int) := of_decide_eq_true y2_; obtain ⟨ad9922068, A270_2, c270_2, e9922068, hx9922068_0, hx9922068_1, hx9922068_2, hl9922068_2, hi270_2⟩ := at_T48 HR0.out x5_1 p9922068 q9922068; have hw9922068_2 := hx9922068_2; have hw9922068_1 := hx9922068_1; have hw9922068_0 := hx9922068_0; cases e9922068; replace hx9922068_0 := cT_ HB.out hx9922068_0; replace hx9922068_1 := cT_ HB.out hx9922068_1; replace hx9922068_2 := cT_ HB.out hx9922068_2; have HR270_2 := a_ hi270_2; have HC270_2 := a_ hl9922068_2; clear hi270_2 hl9922068_2; replace p9922068 := eq_true p9922068; replace q9922068 := eq_true q9922068; have p9548309 : 0 ≤ (x5_1 : Int) := of_decide_eq_true y2_; have q9548309 : x5_1 < (l1.length : Int) := of_decide_eq_true y2_; obtain ⟨ad9548309, A271_2, c271_2, e9548309, hx9548309_0, hx9548309_1, hx9548309_2, hl9548309_2, hi271_2⟩ := at_T48 HR1.out x5_1 p9548309 q9548309; have hw9548309_2 := hx9548309_2; have hw9548309_1 := hx9548309_1; have hw9548309_0 := hx9548309_0; cases e9548309; replace hx9548309_0 := cT_ HB.out hx9548309_0; replace hx9548309_1 := cT_ HB.out hx9548309_1; replace hx9548309_2 := cT_ HB.out hx9548309_2; have HR271_2 := a_ hi271_2; have HC271_2 := a_ hl9548309_2; clear hi271_2 hl9548309_2; replace p9548309 := eq_true p9548309; replace q9548309 := eq_true q9548309
       refine start_ (n := 10) (S := fun w' => w'.cell? (ad9922068.add ((x5_1).toNat * 3)) = some (.string ((rd_T48 l0 x5_1).f0)) ∧ w'.cell? ⟨(ad9922068.add ((x5_1).toNat * 3)).block, (ad9922068.add ((x5_1).toNat * 3)).off + 1, none⟩ = some (.int .i64 ((rd_T48 l0 x5_1).f1)) ∧ w'.cell? ⟨(ad9922068.add ((x5_1).toNat * 3)).block, (ad9922068.add ((x5_1).toNat * 3)).off + 2, none⟩ = some (.slice A270_2 ((rd_T48 l0 x5_1).f2).length c270_2) ∧ w'.cell? (ad9548309.add ((x5_1).toNat * 3)) = some (.string ((rd_T48 l1 x5_1).f0)) ∧ w'.cell? ⟨(ad9548309.add ((x5_1).toNat * 3)).block, (ad9548309.add ((x5_1).toNat * 3)).off + 1, none⟩ = some (.int .i64 ((rd_T48 l1 x5_1).f1)) ∧ w'.cell? ⟨(ad9548309.add ((x5_1).toNat * 3)).block, (ad9548309.add ((x5_1).toNat * 3)).off + 2, none⟩ = some (.slice A271_2 ((rd_T48 l1 x5_1).f2).length c271_2)) (ds := []) #[F_,F_,F_,F_,F_,F_,F_,F_,F_,F_] y35_ rfl rfl ⟨(cT_ HB.out hw9922068_0 :), (cT_ HB.out hw9922068_1 :), (cT_ HB.out hw9922068_2 :), (cT_ HB.out hw9548309_0 :), (cT_ HB.out hw9548309_1 :), (cT_ HB.out hw9548309_2 :)⟩ (fun hHeld => ?_); refine with_tabW laws_eqElemS.tab6 laws_eqElemS.bits6 (fun HT_ HW_ => ?_); generalize wr.drew = w9497698 at HB HR270_2 HR271_2 hx9922068_0 hx9922068_1 hx9922068_2 hx9548309_0 hx9548309_1 hx9548309_2 hHeld ⊢; refine pure_ (i := 0) (N := some 17) #[T_,F_,F_,F_,F_,F_,F_,F_,F_,F_] rfl rfl z1_ (fun _ _ _ h => h) (Or.inl ⟨rfl, z2_⟩) z3_ ?_; refine pure_ (i := 1) (N := some 18) #[T_,T_,F_,F_,F_,F_,F_,F_,F_,F_] rfl rfl z1_ (fun _ _ _ h => h) (Or.inl ⟨rfl, z2_⟩) z3_ ?_; refine pure_ (i := 2) (N := some 19) #[T_,T_,T_,F_,F_,F_,F_,F_,F_,F_] rfl rfl z1_ (fun _ _ _ h => h) (Or.inl ⟨rfl, z2_⟩) z3_ ?_; refine pure_ (i := 4) (N := some 21) #[T_,T_,T_,F_,T_,F_,F_,F_,F_,F_] rfl rfl z1_ (fun _ _ _ h => h) (Or.inl ⟨rfl, z2_⟩) z3_ ?_; refine pure_ (i := 5) (N := some 22) #[T_,T_,T_,F_,T_,T_,F_,F_,F_,F_] rfl rfl z1_ (fun _ _ _ h => h) (Or.inl ⟨rfl, z2_⟩) z3_ ?_; refine pure_ (i := 6) (N := some 23) #[T_,T_,T_,F_,T_,T_,T_,F_,F_,F_] rfl rfl z1_ (fun _ _ _ h => h) (Or.inl ⟨rfl, z2_⟩) z3_ ?_; refine take_ (i := 3) (N := some 20) #[T_,T_,T_,T_,T_,T_,T_,F_,F_,F_] rfl rfl z4_ (fun _ _ _ h => h) (Or.inl ⟨rfl, z25_⟩) hHeld z3_ ?_; refine take_ (i := 7) (N := some 24) #[T_,T_,T_,T_,T_,T_,T_,T_,F_,F_] rfl rfl z4_ (fun _ _ _ h => h) (Or.inl ⟨rfl, z25_⟩) hHeld z3_ ?_; refine one_ (i := 8) (N := some 25) #[T_,T_,T_,T_,T_,T_,T_,T_,T_,F_] rfl rfl (one_of HT_.out y35_) y49_ (fun K hK => ?_)
       refine goes_ Try.func30 y35_ rfl #[.agg #[.string ((rd_T48 l0 x5_1).f0), .int .i64 ((rd_T48 l0 x5_1).f1), .slice A270_2 ((rd_T48 l0 x5_1).f2).length c270_2], .agg #[.string ((rd_T48 l1 x5_1).f0), .int .i64 ((rd_T48 l1 x5_1).f1), .slice A271_2 ((rd_T48 l1 x5_1).f2).length c271_2]] (by rfl) rfl rfl y13_ ?_; with_reducible refine (laws_eqElem.calls k1 ((rd_T48 l0 x5_1).f0) ((rd_T48 l0 x5_1).f1) _ _ ((rd_T48 l0 x5_1).f2) ((rd_T48 l1 x5_1).f0) ((rd_T48 l1 x5_1).f1) _ _ ((rd_T48 l1 x5_1).f2) _ _ ?side1 ?side2 ?side3 ?side4 Ax4.out).mono ?_
       (case side1 => repeat (first | exact (Kd.C_below HR270_2.out HB.out) | (with_reducible refine Kd.C_alloc ?_ _) | (with_reducible refine Kd.C_drewN ?_ _) | (with_reducible refine Kd.C_drew ?_))); (case side2 => exact HC270_2.out); (case side3 => repeat (first | exact (Kd.C_below HR271_2.out HB.out) | (with_reducible refine Kd.C_alloc ?_ _) | (with_reducible refine Kd.C_drewN ?_ _) | (with_reducible refine Kd.C_drew ?_))); (case side4 => exact HC271_2.out); rintro e w9985327 ⟨rfl, hb⟩; refine ⟨_, rfl, ?_⟩; have n0_ := a_ (below_step y0_ hb); clear HB; have HB := n0_; clear n0_; (try clear hb); (try clear hb9800335); (try clear hk); (try clear hi); refine hK.out _ _ ⟨(cT_ HB.out hw9922068_0 :), (cT_ HB.out hw9922068_1 :), (cT_ HB.out hw9922068_2 :), (cT_ HB.out hw9548309_0 :), (cT_ HB.out hw9548309_1 :), (cT_ HB.out hw9548309_2 :)⟩ (fun hHeld => ?_); clear hK K; refine norm_ z14_ ?_; refine pure_ (i := 9) (N := some 26) #[T_,T_,T_,T_,T_,T_,T_,T_,T_,T_] rfl rfl z1_ (fun _ _ _ h => h) (Or.inl ⟨rfl, z2_⟩) z3_ ?_; refine done_ (done_of HT_.out y35_) ?_; try go_wp2)
     first
     | fail_if_success clear m1_1
     |(clear m1_1; go_roundg k1
       case measure => have := HK1.out; omega
       case rel => exact ⟨(wrap64 (x5_1 + 1)), y3_, H', ⟨y48_⟩, ⟨y0_⟩⟩)
     first
     | fail_if_success clear m1_2
     |(clear m1_2; go_ret
       exact ⟨y4_, y0_⟩)
     first
     | fail_if_success clear m1_3
     |(clear m1_3; go_wp2
       go_ret
       exact ⟨y4_, y0_⟩))
 ·rw [if_neg cx0] at H; have cx0b0 : ((l0.length : Int) == (l1.length : Int)) = false := beq_eq_false_iff_ne.mpr cx0; have cx0b1 : ((l0.length : Int) != (l1.length : Int)) = true := bne_iff_ne.mpr cx0; have cx0b2 : (l0.length == l1.length) = false := by first | simpa using cx0 | (simp at cx0 ⊢; omega)
  obtain rfl := Option.some.inj H; go_enter Try.func10, Try.ntmps10
  go_wp2
  go_ret
  exact ⟨y4_, y0_⟩

end Go.Proofs.Ytbjakfnfjndccaa.T
