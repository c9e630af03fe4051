-- Written by a program of this session's own (xp.py) for this seat.
import Derived.Test.YthoamjobclfjjaaGreatRZ
import Derived.Test.YthoamjobclfjjaaGreatR0
namespace Go.Proofs.YthoamjobclfjjaaGreat.R
open Go.RowKit Go.Proofs.YthoamjobclfjjaaGreatW.PrintWords Go.Proofs.YthoamjobclfjjaaGreatW.PrintLast Go.Proofs.YthoamjobclfjjaaGreatW.PrintMore
attribute [local go_sem] Instr.field asAgg
attribute [local go_sem] max2_int min2_int max_two min_two max_three min_three max_four min_four   -- for this text's walks alone
set_option linter.unusedVariables false
set_option linter.unusedSimpArgs false

/-! ### laws_eqAttr: function 48 -/
def laws_eqAttr.f (a0_0 : ByteArray) (a0_1 : ByteArray) (a1_0 : ByteArray) (a1_1 : ByteArray) : Option (Bool) := if a0_0.toList = a1_0.toList then (if a0_1.toList = a1_1.toList then (some true) else (some false)) else (some false)
set_option maxHeartbeats 8000000 in
set_option maxRecDepth 100000 in
theorem laws_eqAttr.calls (a0_0 : ByteArray) (a0_1 : ByteArray) (a1_0 : ByteArray) (a1_1 : ByteArray) (r : Bool) (w : World) (h : laws_eqAttr.f a0_0 a0_1 a1_0 a1_1 = some r) :
    Calls Tryz.prog 48 #[.agg #[.string a0_0, .string a0_1], .agg #[.string a1_0, .string a1_1]] w fun e w' => e = .returned (.bool r) ∧ Below w.heap.size w w' := by
 have hu51 := Tryz.underlying51; have HB := a_ (Below.refl w.heap.size w); have H : (if a0_0.toList = a1_0.toList then (if a0_1.toList = a1_1.toList then (some true) else (some false)) else (some false)) = some r := h; clear h; by_cases cx0 : a0_0.toList = a1_0.toList; rw [if_pos cx0] at H; have cx0b0 : (a0_0.toList == a1_0.toList) = true := beq_iff_eq.mpr cx0; have cx0b1 : (a0_0.toList != a1_0.toList) = false := bne_eq_false_iff_eq.mpr cx0; clear cx0; by_cases cx1 : a0_1.toList = a1_1.toList; rw [if_pos cx1] at H; have cx1b0 : (a0_1.toList == a1_1.toList) = true := beq_iff_eq.mpr cx1; have cx1b1 : (a0_1.toList != a1_1.toList) = false := bne_eq_false_iff_eq.mpr cx1; clear cx1; obtain rfl := Option.some.inj H; rotate_left; rw [if_neg cx1] at H; have cx1b0 : (a0_1.toList == a1_1.toList) = false := beq_eq_false_iff_ne.mpr cx1; have cx1b1 : (a0_1.toList != a1_1.toList) = true := bne_iff_ne.mpr cx1; obtain rfl := Option.some.inj H; rotate_left; rw [if_neg cx0] at H; have cx0b0 : (a0_0.toList == a1_0.toList) = false := beq_eq_false_iff_ne.mpr cx0; have cx0b1 : (a0_0.toList != a1_0.toList) = true := bne_iff_ne.mpr cx0; obtain rfl := Option.some.inj H; rotate_left
 all_goals (
  go_enter Tryz.func48, Tryz.ntmps48
  go_wp2_with (first | ((with_reducible refine gate_dst (N := 2) rfl ?_); refine box_event zr_ (N := 2) zr_ (cs := #[.string a0_0, .string a0_1]) (t := 51) zs_ ?_; intro gb9551407 hg w9372519 hbox hb; have n0_ := a_ (below_step y0_ hb); have n1_ := a_ (hbox); have n2_ := a_ ((by rw [hg]; exact (below_size y0_) : w.heap.size ≤ gb9551407)); have n3_ := a_ ((by rw [hg]; exact (below_size y0_) : w.heap.size ≤ gb9551407)); clear HB; have HB := n0_; have BK9551407 := n1_; have GW9551407 := n2_; have GE9551407 := n3_; clear n0_ n1_ n2_ n3_; clear hb hbox hg) | ((with_reducible refine gate_dst (N := 3) rfl ?_); refine box_event zr_ (N := 3) zr_ (cs := #[.string a1_0, .string a1_1]) (t := 51) zs_ ?_; intro gb9103928 hg w9096440 hbox hb; have n0_ := a_ (blk_below (g := gb9551407) (o := .cells #[.string a0_0, .string a0_1] 51 (0, 0)) y65_ hb); have n1_ := a_ (below_step y56_ hb); have n2_ := a_ (hbox); have n3_ := a_ ((by rw [hg]; exact (below_size y56_) : w.heap.size ≤ gb9103928)); have n4_ := a_ ((by rw [hg]; exact (below_size y56_) : w.heap.size ≤ gb9103928)); have n5_ := a_ ((by rw [hg]; exact Nat.ne_of_lt (blk_lt (g := gb9551407) (o := .cells #[.string a0_0, .string a0_1] 51 (0, 0)) y65_) : gb9551407 ≠ gb9103928)); have n6_ := a_ ((by rw [hg]; exact Nat.ne_of_gt (blk_lt (g := gb9551407) (o := .cells #[.string a0_0, .string a0_1] 51 (0, 0)) y65_) : gb9103928 ≠ gb9551407)); clear BK9551407; clear HB; have BK9551407 := n0_; have HB := n1_; have BK9103928 := n2_; have GW9103928 := n3_; have GE9103928 := n4_; have NB319_320 := n5_; have NB320_319 := n6_; clear n0_ n1_ n2_ n3_ n4_ n5_ n6_; clear hb hbox hg; have hnb9571232 := NB319_320.out; have hnc9571232 := NB320_319.out; have hcz9069893_0 : w9096440.cell? ⟨gb9551407, 0, none⟩ = some (.string a0_0) := (blk_cell BK9551407.out 0).trans rfl; have hcz9069893_1 : w9096440.cell? ⟨gb9551407, 1, none⟩ = some (.string a0_1) := (blk_cell BK9551407.out 1).trans rfl; have hfz9069893_0 := blk_frozen BK9551407.out 0; have hfz9069893_1 := blk_frozen BK9551407.out 1; have hcz9092695_0 : w9096440.cell? ⟨gb9103928, 0, none⟩ = some (.string a1_0) := (blk_cell BK9103928.out 0).trans rfl; have hcz9092695_1 : w9096440.cell? ⟨gb9103928, 1, none⟩ = some (.string a1_1) := (blk_cell BK9103928.out 1).trans rfl; have hfz9092695_0 := blk_frozen BK9103928.out 0; have hfz9092695_1 := blk_frozen BK9103928.out 1))
  go_ret
  exact ⟨y6_, by repeat (first | (with_reducible first | exact HB.out | apply below_alloc | apply pw_below_drewN | apply below_drew1 | refine below_set ?_ GE9551407.out | refine below_set ?_ GE9103928.out) | exact HB.out)⟩)

/-! ### laws_eqAttrS: function 37 -/
def laws_eqAttrS.l0 : Nat → List (S51) → List (S51) → Int → Option (Bool)
  | 0, _, _, _ => none
  | k + 1, x0, x1, x5 => if x5 < (x0.length : Int) then (if 0 ≤ x5 then (if x5 < (x1.length : Int) then ((laws_eqAttr.f ((rd_T51 x0 x5).f0) ((rd_T51 x0 x5).f1) ((rd_T51 x1 x5).f0) ((rd_T51 x1 x5).f1)).bind fun t323 => (if t323 = true then (laws_eqAttrS.l0 k x0 x1 (wrap64 (x5 + 1))) else (some false))) else (none)) else (none)) else (some true)
def laws_eqAttrS.f (k : Nat) (l0 : List (S51)) (l1 : List (S51)) : Option (Bool) := if (l0.length : Int) = (l1.length : Int) then (laws_eqAttrS.l0 k l0 l1 0) else (some false)
theorem laws_eqAttrS.mono_l : ∀ k, (∀ y0 y1 y2, LeO (laws_eqAttrS.l0 k y0 y1 y2) (laws_eqAttrS.l0 (k + 1) y0 y1 y2))
  | 0 => fun _ _ _ r h => by simp [laws_eqAttrS.l0] at h
  | k + 1 => by
    have ih0 := laws_eqAttrS.mono_l k
    · intro y0 y1 y2
      unfold laws_eqAttrS.l0
      repeat' (with_reducible first | exact ih0 _ _ _ | exact LeO.refl _ | exact LeO.none _ | refine LeO.ite ?_ ?_ | refine LeO.bind ?_ (fun _ => ?_))
theorem laws_eqAttrS.mono : ∀ a0 a1 k, LeO (laws_eqAttrS.f k a0 a1) (laws_eqAttrS.f (k + 1) a0 a1) := by
  intro a0 a1 k
  have ih0 := laws_eqAttrS.mono_l k
  unfold laws_eqAttrS.f
  repeat' (with_reducible first | exact ih0 _ _ _ | exact LeO.refl _ | exact LeO.none _ | refine LeO.ite ?_ ?_ | refine LeO.bind ?_ (fun _ => ?_))
def laws_eqAttrS.T6 : Bool × List (List Nat × List Nat) := (true, [([], []), ([], []), ([0, 1], [0, 1]), ([2], [2]), ([], []), ([], []), ([4, 5], [4, 5]), ([6], [6]), ([3, 7], [3, 7]), ([8], [8])])
def laws_eqAttrS.B6 : List Nat := [0, 0, 3, 7, 0, 0, 48, 112, 255, 511]
theorem laws_eqAttrS.tab6 : rtab .any (opsOf Tryz.f37 6) = laws_eqAttrS.T6 := by kernel_rfl
theorem laws_eqAttrS.bits6 : waitsOk laws_eqAttrS.T6.2 laws_eqAttrS.B6 = true := by kernel_rfl
set_option maxHeartbeats 8000000 in
set_option maxRecDepth 100000 in
theorem laws_eqAttrS.calls (k : Nat) (A0 : Option Addr) (c0 : Nat) (l0 : List (S51)) (A1 : Option Addr) (c1 : Nat) (l1 : List (S51)) (r : Bool) (w : World) (hr0 : Kd.C k51 w A0 l0.length l0) (hc0 : l0.length ≤ c0) (hr1 : Kd.C k51 w A1 l1.length l1) (hc1 : l1.length ≤ c1) (h : laws_eqAttrS.f k l0 l1 = some r) :
    Calls Tryz.prog 37 #[.slice A0 l0.length c0, .slice A1 l1.length c1] w fun e w' => e = .returned (.bool r) ∧ Below w.heap.size w w' := by
 have hu51 := Tryz.underlying51; have HR0 := a_ hr0; have HC0 := a_ hc0; clear hr0 hc0; have HR1 := a_ hr1; have HC1 := a_ hc1; clear hr1 hc1; have HB := a_ (Below.refl w.heap.size w); have H : (if (l0.length : Int) = (l1.length : Int) then (laws_eqAttrS.l0 k l0 l1 0) else (some false)) = some r := h; clear h; by_cases cx0 : (l0.length : Int) = (l1.length : Int)
 ·rw [if_pos cx0] at H; have cx0b0 : ((l0.length : Int) == (l1.length : Int)) = true := beq_iff_eq.mpr cx0; have cx0b1 : ((l0.length : Int) != (l1.length : Int)) = false := bne_eq_false_iff_eq.mpr cx0; have cx0b2 : (l0.length == l1.length) = true := by first | simpa using cx0 | (simp at cx0 ⊢; omega)
  clear cx0; have H' := a_ H; clear H; go_enter Tryz.func37, Tryz.ntmps37
  go_wp2
  go_loopg [5] k (fun kq v5 w' => ∃ (x5_1 : Int), v5 = .int .i64 x5_1 ∧ Aside0 (laws_eqAttrS.l0 kq l0 l1 x5_1 = some r) ∧ Aside0 (kq ≤ k) ∧ Aside0 (Below w.heap.size w w'))
  case atStart => exact ⟨(0), y2_, H', ⟨Nat.le_refl _⟩, ⟨y0_⟩⟩
  case round =>
   clear H'; (try clear cx0); (try clear cx0b0); (try clear cx0b1); (try clear cx0b2); obtain ⟨x5_1, rfl, HA, HK1, HB⟩ := hrel; cases gk with
   | zero => exact absurd HA.out (by simp [laws_eqAttrS.l0])
   | succ k1 =>
    have H := HA.out; clear HA; simp only [laws_eqAttrS.l0] at H; by_cases cx1 : x5_1 < (l0.length : Int); rw [if_pos cx1] at H; have cx1b0 : decide (x5_1 < (l0.length : Int)) = true := decide_eq_true cx1; clear cx1; by_cases cx2 : 0 ≤ x5_1; rw [if_pos cx2] at H; have cx2b0 : decide (0 ≤ x5_1) = true := decide_eq_true cx2; clear cx2; by_cases cx3 : x5_1 < (l1.length : Int); rw [if_pos cx3] at H; have cx3b0 : decide (x5_1 < (l1.length : Int)) = true := decide_eq_true cx3; clear cx3; replace H := Option.bind_eq_some_iff.mp H; obtain ⟨tx4, Ay4, H⟩ := H; have Ax4 := a_ Ay4; clear Ay4; by_cases cx5 : tx4 = true; subst cx5; rw [if_pos rfl] at H; have H' := a_ H; clear H; have m1_0 := t_; have m1_1 := t_; rotate_left; replace cx5 := Bool.eq_false_iff.mpr cx5; subst cx5; rw [if_neg (show ¬ (false = true) by decide)] at H; obtain rfl := Option.some.inj H; have m1_0 := t_; have m1_2 := t_; rotate_left
    ·rw [if_neg cx3] at H; exact absurd H y50_
    ·rw [if_neg cx2] at H; exact absurd H y50_
    rw [if_neg cx1] at H; have cx1b0 : decide (x5_1 < (l0.length : Int)) = false := decide_eq_false cx1; clear cx1; obtain rfl := Option.some.inj H; have m1_3 := t_; rotate_left
    all_goals (
     first
     | fail_if_success clear m1_0
     |(clear m1_0; try go_wp2
       have n0_ := a_ (below_drew1 HB.out); clear HB; have HB := n0_; clear n0_; have p9922068 : 0 ≤ (x5_1 : Int) := of_decide_eq_true y3_; have q9922068 : x5_1 < (l0.length : Int) := of_decide_eq_true y3_; obtain ⟨ad9922068, e9922068, hx9922068_0, hx9922068_1⟩ := at_T51 HR0.out x5_1 p9922068 q9922068; have hw9922068_1 := hx9922068_1; have hw9922068_0 := hx9922068_0; cases e9922068; replace hx9922068_0 := cT_ HB.out hx9922068_0; replace hx9922068_1 := cT_ HB.out hx9922068_1; replace p9922068 := eq_true p9922068; replace q9922068 := eq_true q9922068; have p9548309 : 0 ≤ (x5_1 : Int) := of_decide_eq_true y3_; have q9548309 : x5_1 < (l1.length : Int) := of_decide_eq_true y3_; obtain ⟨ad9548309, e9548309, hx9548309_0, hx9548309_1⟩ := at_T51 HR1.out x5_1 p9548309 q9548309; have hw9548309_1 := hx9548309_1; have hw9548309_0 := hx9548309_0; cases e9548309; replace hx9548309_0 := cT_ HB.out hx9548309_0; replace hx9548309_1 := cT_ HB.out hx9548309_1; replace p9548309 := eq_true p9548309; replace q9548309 := eq_true q9548309; refine start_ (n := 10) (S := fun w' => w'.cell? (ad9922068.add ((x5_1).toNat * 2)) = some (.string ((rd_T51 l0 x5_1).f0)) ∧ w'.cell? ⟨(ad9922068.add ((x5_1).toNat * 2)).block, (ad9922068.add ((x5_1).toNat * 2)).off + 1, none⟩ = some (.string ((rd_T51 l0 x5_1).f1)) ∧ w'.cell? (ad9548309.add ((x5_1).toNat * 2)) = some (.string ((rd_T51 l1 x5_1).f0)) ∧ w'.cell? ⟨(ad9548309.add ((x5_1).toNat * 2)).block, (ad9548309.add ((x5_1).toNat * 2)).off + 1, none⟩ = some (.string ((rd_T51 l1 x5_1).f1))) (ds := []) #[F_,F_,F_,F_,F_,F_,F_,F_,F_,F_] y23_ rfl rfl ⟨(cT_ HB.out hw9922068_0 :), (cT_ HB.out hw9922068_1 :), (cT_ HB.out hw9548309_0 :), (cT_ HB.out hw9548309_1 :)⟩ (fun hHeld => ?_); refine with_tabW laws_eqAttrS.tab6 laws_eqAttrS.bits6 (fun HT_ HW_ => ?_); generalize wr.drew = w9497698 at HB hx9922068_0 hx9922068_1 hx9548309_0 hx9548309_1 hHeld ⊢; refine pure_ (i := 0) (N := some 17) #[T_,F_,F_,F_,F_,F_,F_,F_,F_,F_] rfl rfl z1_ (fun _ _ _ h => h) (Or.inl ⟨rfl, z2_⟩) z3_ ?_; refine pure_ (i := 1) (N := some 18) #[T_,T_,F_,F_,F_,F_,F_,F_,F_,F_] rfl rfl z1_ (fun _ _ _ h => h) (Or.inl ⟨rfl, z2_⟩) z3_ ?_; refine pure_ (i := 2) (N := some 19) #[T_,T_,T_,F_,F_,F_,F_,F_,F_,F_] rfl rfl z1_ (fun _ _ _ h => h) (Or.inl ⟨rfl, z2_⟩) z3_ ?_; refine pure_ (i := 4) (N := some 21) #[T_,T_,T_,F_,T_,F_,F_,F_,F_,F_] rfl rfl z1_ (fun _ _ _ h => h) (Or.inl ⟨rfl, z2_⟩) z3_ ?_; refine pure_ (i := 5) (N := some 22) #[T_,T_,T_,F_,T_,T_,F_,F_,F_,F_] rfl rfl z1_ (fun _ _ _ h => h) (Or.inl ⟨rfl, z2_⟩) z3_ ?_
       refine pure_ (i := 6) (N := some 23) #[T_,T_,T_,F_,T_,T_,T_,F_,F_,F_] rfl rfl z1_ (fun _ _ _ h => h) (Or.inl ⟨rfl, z2_⟩) z3_ ?_; refine take_ (i := 3) (N := some 20) #[T_,T_,T_,T_,T_,T_,T_,F_,F_,F_] rfl rfl z4_ (fun _ _ _ h => h) (Or.inl ⟨rfl, z25_⟩) hHeld z3_ ?_; refine take_ (i := 7) (N := some 24) #[T_,T_,T_,T_,T_,T_,T_,T_,F_,F_] rfl rfl z4_ (fun _ _ _ h => h) (Or.inl ⟨rfl, z25_⟩) hHeld z3_ ?_; refine one_ (i := 8) (N := some 25) #[T_,T_,T_,T_,T_,T_,T_,T_,T_,F_] rfl rfl (one_of HT_.out y23_) y48_ (fun K hK => ?_); refine goes_ Tryz.func48 y23_ rfl #[.agg #[.string ((rd_T51 l0 x5_1).f0), .string ((rd_T51 l0 x5_1).f1)], .agg #[.string ((rd_T51 l1 x5_1).f0), .string ((rd_T51 l1 x5_1).f1)]] (by rfl) rfl rfl y10_ ?_; with_reducible refine (laws_eqAttr.calls ((rd_T51 l0 x5_1).f0) ((rd_T51 l0 x5_1).f1) ((rd_T51 l1 x5_1).f0) ((rd_T51 l1 x5_1).f1) _ _ Ax4.out).mono ?_
       rintro e w9985327 ⟨rfl, hb⟩; refine ⟨_, rfl, ?_⟩; have n0_ := a_ (below_step y0_ hb); clear HB; have HB := n0_; clear n0_; (try clear hb); (try clear hb9800335); (try clear hk); (try clear hi); refine hK.out _ _ ⟨(cT_ HB.out hw9922068_0 :), (cT_ HB.out hw9922068_1 :), (cT_ HB.out hw9548309_0 :), (cT_ HB.out hw9548309_1 :)⟩ (fun hHeld => ?_); clear hK K; refine norm_ z14_ ?_; refine pure_ (i := 9) (N := some 26) #[T_,T_,T_,T_,T_,T_,T_,T_,T_,T_] rfl rfl z1_ (fun _ _ _ h => h) (Or.inl ⟨rfl, z2_⟩) z3_ ?_; refine done_ (done_of HT_.out y23_) ?_; try go_wp2)
     first
     | fail_if_success clear m1_1
     |(clear m1_1; go_roundg k1
       case measure => have := HK1.out; omega
       case rel => exact ⟨(wrap64 (x5_1 + 1)), y2_, H', ⟨y29_⟩, ⟨y0_⟩⟩)
     first
     | fail_if_success clear m1_2
     |(clear m1_2; go_ret
       exact ⟨y6_, y0_⟩)
     first
     | fail_if_success clear m1_3
     |(clear m1_3; go_wp2
       go_ret
       exact ⟨y6_, y0_⟩))
 ·rw [if_neg cx0] at H; have cx0b0 : ((l0.length : Int) == (l1.length : Int)) = false := beq_eq_false_iff_ne.mpr cx0; have cx0b1 : ((l0.length : Int) != (l1.length : Int)) = true := bne_iff_ne.mpr cx0; have cx0b2 : (l0.length == l1.length) = false := by first | simpa using cx0 | (simp at cx0 ⊢; omega)
  obtain rfl := Option.some.inj H; go_enter Tryz.func37, Tryz.ntmps37
  go_wp2
  go_ret
  exact ⟨y6_, y0_⟩

/-! ### laws_eqElem: function 18 -/
def laws_eqElem.f (k : Nat) (a0_0 : ByteArray) (a0_1 : Int) (l0_2 : List (S51)) (a1_0 : ByteArray) (a1_1 : Int) (l1_2 : List (S51)) : Option (Bool) := if a0_0.toList = a1_0.toList then (if a0_1 = a1_1 then ((laws_eqAttrS.f k l0_2 l1_2).bind fun t326 => (if t326 = true then (some true) else (some false))) else (some false)) else (some false)
theorem laws_eqElem.mono : ∀ a0 a1 a2 a3 a4 a5 k, LeO (laws_eqElem.f k a0 a1 a2 a3 a4 a5) (laws_eqElem.f (k + 1) a0 a1 a2 a3 a4 a5) := by
  intro a0 a1 a2 a3 a4 a5 k
  unfold laws_eqElem.f
  repeat' (with_reducible first | exact laws_eqAttrS.mono _ _ _ | exact LeO.refl _ | exact LeO.none _ | refine LeO.ite ?_ ?_ | refine LeO.bind ?_ (fun _ => ?_))
set_option maxHeartbeats 8000000 in
set_option maxRecDepth 100000 in
theorem laws_eqElem.calls (k : Nat) (a0_0 : ByteArray) (a0_1 : Int) (A0_2 : Option Addr) (c0_2 : Nat) (l0_2 : List (S51)) (a1_0 : ByteArray) (a1_1 : Int) (A1_2 : Option Addr) (c1_2 : Nat) (l1_2 : List (S51)) (r : Bool) (w : World) (hr0_2 : Kd.C k51 w A0_2 l0_2.length l0_2) (hc0_2 : l0_2.length ≤ c0_2) (hr1_2 : Kd.C k51 w A1_2 l1_2.length l1_2) (hc1_2 : l1_2.length ≤ c1_2) (h : laws_eqElem.f k a0_0 a0_1 l0_2 a1_0 a1_1 l1_2 = some r) :
    Calls Tryz.prog 18 #[.agg #[.string a0_0, .int .i64 a0_1, .slice A0_2 l0_2.length c0_2], .agg #[.string a1_0, .int .i64 a1_1, .slice A1_2 l1_2.length c1_2]] w fun e w' => e = .returned (.bool r) ∧ Below w.heap.size w w' := by
 have hu40 := Tryz.underlying40; have HR0_2 := a_ hr0_2; have HC0_2 := a_ hc0_2; clear hr0_2 hc0_2; have HR1_2 := a_ hr1_2; have HC1_2 := a_ hc1_2; clear hr1_2 hc1_2; have HB := a_ (Below.refl w.heap.size w); have H : (if a0_0.toList = a1_0.toList then (if a0_1 = a1_1 then ((laws_eqAttrS.f k l0_2 l1_2).bind fun t326 => (if t326 = true then (some true) else (some false))) else (some false)) else (some false)) = some r := h; clear h; by_cases cx0 : a0_0.toList = a1_0.toList; rw [if_pos cx0] at H; have cx0b0 : (a0_0.toList == a1_0.toList) = true := beq_iff_eq.mpr cx0; have cx0b1 : (a0_0.toList != a1_0.toList) = false := bne_eq_false_iff_eq.mpr cx0; clear cx0; by_cases cx1 : a0_1 = a1_1; rw [if_pos cx1] at H; have cx1b0 : (a0_1 == a1_1) = true := beq_iff_eq.mpr cx1; have cx1b1 : (a0_1 != a1_1) = false := bne_eq_false_iff_eq.mpr cx1; clear cx1; replace H := Option.bind_eq_some_iff.mp H; obtain ⟨tx2, Ay2, H⟩ := H; have Ax2 := a_ Ay2; clear Ay2; by_cases cx3 : tx2 = true; subst cx3; rw [if_pos rfl] at H; obtain rfl := Option.some.inj H; rotate_left; replace cx3 := Bool.eq_false_iff.mpr cx3; subst cx3; rw [if_neg (show ¬ (false = true) by decide)] at H; obtain rfl := Option.some.inj H; rotate_left; rw [if_neg cx1] at H; have cx1b0 : (a0_1 == a1_1) = false := beq_eq_false_iff_ne.mpr cx1; have cx1b1 : (a0_1 != a1_1) = true := bne_iff_ne.mpr cx1; obtain rfl := Option.some.inj H; rotate_left; rw [if_neg cx0] at H; have cx0b0 : (a0_0.toList == a1_0.toList) = false := beq_eq_false_iff_ne.mpr cx0; have cx0b1 : (a0_0.toList != a1_0.toList) = true := bne_iff_ne.mpr cx0; obtain rfl := Option.some.inj H; rotate_left
 all_goals (
  go_enter Tryz.func18, Tryz.ntmps18
  go_wp2_with (first | ((with_reducible refine gate_dst (N := 2) rfl ?_); refine box_event zr_ (N := 2) zr_ (cs := #[.string a0_0, .int .i64 a0_1, .slice A0_2 l0_2.length c0_2]) (t := 40) zs_ ?_; intro gb9431234 hg w9738017 hbox hb; have n0_ := a_ (below_step y0_ hb); have n1_ := a_ (hbox); have n2_ := a_ ((by rw [hg]; exact (below_size y0_) : w.heap.size ≤ gb9431234)); have n3_ := a_ ((by rw [hg]; exact (below_size y0_) : w.heap.size ≤ gb9431234)); clear HB; have HB := n0_; have BK9431234 := n1_; have GW9431234 := n2_; have GE9431234 := n3_; clear n0_ n1_ n2_ n3_; clear hb hbox hg) | ((with_reducible refine gate_dst (N := 3) rfl ?_); refine box_event zr_ (N := 3) zr_ (cs := #[.string a1_0, .int .i64 a1_1, .slice A1_2 l1_2.length c1_2]) (t := 40) zs_ ?_; intro gb9039347 hg w9942651 hbox hb; have n0_ := a_ (blk_below (g := gb9431234) (o := .cells #[.string a0_0, .int .i64 a0_1, .slice A0_2 l0_2.length c0_2] 40 (0, 0)) y54_ hb); have n1_ := a_ (below_step y57_ hb); have n2_ := a_ (hbox); have n3_ := a_ ((by rw [hg]; exact (below_size y57_) : w.heap.size ≤ gb9039347)); have n4_ := a_ ((by rw [hg]; exact (below_size y57_) : w.heap.size ≤ gb9039347)); have n5_ := a_ ((by rw [hg]; exact Nat.ne_of_lt (blk_lt (g := gb9431234) (o := .cells #[.string a0_0, .int .i64 a0_1, .slice A0_2 l0_2.length c0_2] 40 (0, 0)) y54_) : gb9431234 ≠ gb9039347)); have n6_ := a_ ((by rw [hg]; exact Nat.ne_of_gt (blk_lt (g := gb9431234) (o := .cells #[.string a0_0, .int .i64 a0_1, .slice A0_2 l0_2.length c0_2] 40 (0, 0)) y54_) : gb9039347 ≠ gb9431234)); clear BK9431234; clear HB; have BK9431234 := n0_; have HB := n1_; have BK9039347 := n2_; have GW9039347 := n3_; have GE9039347 := n4_; have NB324_325 := n5_; have NB325_324 := n6_; clear n0_ n1_ n2_ n3_ n4_ n5_ n6_; clear hb hbox hg; have hnb9096315 := NB324_325.out; have hnc9096315 := NB325_324.out; have hcz9931140_0 : w9942651.cell? ⟨gb9431234, 0, none⟩ = some (.string a0_0) := (blk_cell BK9431234.out 0).trans rfl; have hcz9931140_1 : w9942651.cell? ⟨gb9431234, 1, none⟩ = some (.int .i64 a0_1) := (blk_cell BK9431234.out 1).trans rfl; have hcz9931140_2 : w9942651.cell? ⟨gb9431234, 2, none⟩ = some (.slice A0_2 l0_2.length c0_2) := (blk_cell BK9431234.out 2).trans rfl; have hfz9931140_0 := blk_frozen BK9431234.out 0; have hfz9931140_1 := blk_frozen BK9431234.out 1; have hfz9931140_2 := blk_frozen BK9431234.out 2; have hcz9419015_0 : w9942651.cell? ⟨gb9039347, 0, none⟩ = some (.string a1_0) := (blk_cell BK9039347.out 0).trans rfl; have hcz9419015_1 : w9942651.cell? ⟨gb9039347, 1, none⟩ = some (.int .i64 a1_1) := (blk_cell BK9039347.out 1).trans rfl; have hcz9419015_2 : w9942651.cell? ⟨gb9039347, 2, none⟩ = some (.slice A1_2 l1_2.length c1_2) := (blk_cell BK9039347.out 2).trans rfl; have hfz9419015_0 := blk_frozen BK9039347.out 0; have hfz9419015_1 := blk_frozen BK9039347.out 1; have hfz9419015_2 := blk_frozen BK9039347.out 2) | ((with_reducible refine gate_callee (f := 37) rfl ?_); refine gc_ 37 19 Tryz.func37 #[.slice A0_2 l0_2.length c0_2, .slice A1_2 l1_2.length c1_2] ?_; (with_reducible refine (laws_eqAttrS.calls k _ _ l0_2 _ _ l1_2 _ _ ?side1 ?side2 ?side3 ?side4 Ax2.out).mono ?_); (case side1 => repeat (first | exact (Kd.C_below HR0_2.out HB.out) | (with_reducible refine Kd.C_alloc ?_ _) | (with_reducible refine Kd.C_drewN ?_ _) | (with_reducible refine Kd.C_drew ?_))); (case side2 => exact HC0_2.out); (case side3 => repeat (first | exact (Kd.C_below HR1_2.out HB.out) | (with_reducible refine Kd.C_alloc ?_ _) | (with_reducible refine Kd.C_drewN ?_ _) | (with_reducible refine Kd.C_drew ?_))); (case side4 => exact HC1_2.out); rintro e w9672377 ⟨rfl, hb⟩; refine ⟨_, rfl, ?_⟩; have n0_ := a_ (blk_below (g := gb9431234) (o := .cells #[.string a0_0, .int .i64 a0_1, .slice A0_2 l0_2.length c0_2] 40 (0, 0)) y54_ hb); have n1_ := a_ (blk_below (g := gb9039347) (o := .cells #[.string a1_0, .int .i64 a1_1, .slice A1_2 l1_2.length c1_2] 40 (0, 0)) (by (with_reducible repeat (first | refine blk_drewN ?_ _ | refine blk_drew ?_ | refine blk_alloc ?_ _)); exact BK9039347.out) hb); have n2_ := a_ (below_step y71_ hb); clear BK9431234; clear BK9039347; clear HB; have BK9431234 := n0_; have BK9039347 := n1_; have HB := n2_; clear n0_ n1_ n2_; (try clear hb); (try clear hb9608789); (try clear hk); (try clear hi)))
  go_ret
  exact ⟨y6_, y71_⟩)

/-! ### laws_eqElemS: function 9 -/
def laws_eqElemS.l0 : Nat → List (S40) → List (S40) → Int → Option (Bool)
  | 0, _, _, _ => none
  | k + 1, x0, x1, x5 => if x5 < (x0.length : Int) then (if 0 ≤ x5 then (if x5 < (x1.length : Int) then ((laws_eqElem.f k ((rd_T40 x0 x5).f0) ((rd_T40 x0 x5).f1) ((rd_T40 x0 x5).f2) ((rd_T40 x1 x5).f0) ((rd_T40 x1 x5).f1) ((rd_T40 x1 x5).f2)).bind fun t329 => (if t329 = true then (laws_eqElemS.l0 k x0 x1 (wrap64 (x5 + 1))) else (some false))) else (none)) else (none)) else (some true)
def laws_eqElemS.f (k : Nat) (l0 : List (S40)) (l1 : List (S40)) : Option (Bool) := if (l0.length : Int) = (l1.length : Int) then (laws_eqElemS.l0 k l0 l1 0) else (some false)
theorem laws_eqElemS.mono_l : ∀ k, (∀ y0 y1 y2, LeO (laws_eqElemS.l0 k y0 y1 y2) (laws_eqElemS.l0 (k + 1) y0 y1 y2))
  | 0 => fun _ _ _ r h => by simp [laws_eqElemS.l0] at h
  | k + 1 => by
    have ih0 := laws_eqElemS.mono_l k
    · intro y0 y1 y2
      unfold laws_eqElemS.l0
      repeat' (with_reducible first | exact ih0 _ _ _ | exact laws_eqElem.mono _ _ _ _ _ _ _ | exact LeO.refl _ | exact LeO.none _ | refine LeO.ite ?_ ?_ | refine LeO.bind ?_ (fun _ => ?_))
theorem laws_eqElemS.mono : ∀ a0 a1 k, LeO (laws_eqElemS.f k a0 a1) (laws_eqElemS.f (k + 1) a0 a1) := by
  intro a0 a1 k
  have ih0 := laws_eqElemS.mono_l k
  unfold laws_eqElemS.f
  repeat' (with_reducible first | exact ih0 _ _ _ | exact laws_eqElem.mono _ _ _ _ _ _ _ | exact LeO.refl _ | exact LeO.none _ | refine LeO.ite ?_ ?_ | refine LeO.bind ?_ (fun _ => ?_))
def laws_eqElemS.T6 : Bool × List (List Nat × List Nat) := (true, [([], []), ([], []), ([0, 1], [0, 1]), ([2], [2]), ([], []), ([], []), ([4, 5], [4, 5]), ([6], [6]), ([3, 7], [3, 7]), ([8], [8])])
def laws_eqElemS.B6 : List Nat := [0, 0, 3, 7, 0, 0, 48, 112, 255, 511]
theorem laws_eqElemS.tab6 : rtab .any (opsOf Tryz.f9 6) = laws_eqElemS.T6 := by kernel_rfl
theorem laws_eqElemS.bits6 : waitsOk laws_eqElemS.T6.2 laws_eqElemS.B6 = true := by kernel_rfl
set_option maxHeartbeats 8000000 in
set_option maxRecDepth 100000 in
theorem laws_eqElemS.calls (k : Nat) (A0 : Option Addr) (c0 : Nat) (l0 : List (S40)) (A1 : Option Addr) (c1 : Nat) (l1 : List (S40)) (r : Bool) (w : World) (hr0 : Kd.C k40 w A0 l0.length l0) (hc0 : l0.length ≤ c0) (hr1 : Kd.C k40 w A1 l1.length l1) (hc1 : l1.length ≤ c1) (h : laws_eqElemS.f k l0 l1 = some r) :
    Calls Tryz.prog 9 #[.slice A0 l0.length c0, .slice A1 l1.length c1] w fun e w' => e = .returned (.bool r) ∧ Below w.heap.size w w' := by
 have hu40 := Tryz.underlying40; have HR0 := a_ hr0; have HC0 := a_ hc0; clear hr0 hc0; have HR1 := a_ hr1; have HC1 := a_ hc1; clear hr1 hc1; have HB := a_ (Below.refl w.heap.size w); have H : (if (l0.length : Int) = (l1.length : Int) then (laws_eqElemS.l0 k l0 l1 0) else (some false)) = some r := h; clear h; by_cases cx0 : (l0.length : Int) = (l1.length : Int)
 ·rw [if_pos cx0] at H; have cx0b0 : ((l0.length : Int) == (l1.length : Int)) = true := beq_iff_eq.mpr cx0; have cx0b1 : ((l0.length : Int) != (l1.length : Int)) = false := bne_eq_false_iff_eq.mpr cx0; have cx0b2 : (l0.length == l1.length) = true := by first | simpa using cx0 | (simp at cx0 ⊢; omega)
  clear cx0; have H' := a_ H; clear H; go_enter Tryz.func9, Tryz.ntmps9
  go_wp2
  go_loopg [5] k (fun kq v5 w' => ∃ (x5_1 : Int), v5 = .int .i64 x5_1 ∧ Aside0 (laws_eqElemS.l0 kq l0 l1 x5_1 = some r) ∧ Aside0 (kq ≤ k) ∧ Aside0 (Below w.heap.size w w'))
  case atStart => exact ⟨(0), y2_, H', ⟨Nat.le_refl _⟩, ⟨y0_⟩⟩
  case round =>
   clear H'; (try clear cx0); (try clear cx0b0); (try clear cx0b1); (try clear cx0b2); obtain ⟨x5_1, rfl, HA, HK1, HB⟩ := hrel; cases gk with
   | zero => exact absurd HA.out (by simp [laws_eqElemS.l0])
   | succ k1 =>
    have H := HA.out; clear HA; simp only [laws_eqElemS.l0] at H; by_cases cx1 : x5_1 < (l0.length : Int); rw [if_pos cx1] at H; have cx1b0 : decide (x5_1 < (l0.length : Int)) = true := decide_eq_true cx1; clear cx1; by_cases cx2 : 0 ≤ x5_1; rw [if_pos cx2] at H; have cx2b0 : decide (0 ≤ x5_1) = true := decide_eq_true cx2; clear cx2; by_cases cx3 : x5_1 < (l1.length : Int); rw [if_pos cx3] at H; have cx3b0 : decide (x5_1 < (l1.length : Int)) = true := decide_eq_true cx3; clear cx3; replace H := Option.bind_eq_some_iff.mp H; obtain ⟨tx4, Ay4, H⟩ := H; have Ax4 := a_ Ay4; clear Ay4; by_cases cx5 : tx4 = true; subst cx5; rw [if_pos rfl] at H; have H' := a_ H; clear H; have m1_0 := t_; have m1_1 := t_; rotate_left; replace cx5 := Bool.eq_false_iff.mpr cx5; subst cx5; rw [if_neg (show ¬ (false = true) by decide)] at H; obtain rfl := Option.some.inj H; have m1_0 := t_; have m1_2 := t_; rotate_left
    ·rw [if_neg cx3] at H; exact absurd H y50_
    ·rw [if_neg cx2] at H; exact absurd H y50_
    rw [if_neg cx1] at H; have cx1b0 : decide (x5_1 < (l0.length : Int)) = false := decide_eq_false cx1; clear cx1; obtain rfl := Option.some.inj H; have m1_3 := t_; rotate_left
    all_goals (
     first
     | fail_if_success clear m1_0
     |(clear m1_0; try go_wp2
       have n0_ := a_ (below_drew1 HB.out); clear HB; have HB := n0_; clear n0_; have p9922068 : 0 ≤ (x5_1 : Int) := of_decide_eq_true y3_; have q9922068 : x5_1 < (l0.length : Int) := of_decide_eq_true y3_; obtain ⟨ad9922068, A327_2, c327_2, e9922068, hx9922068_0, hx9922068_1, hx9922068_2, hl9922068_2, hi327_2⟩ := at_T40 HR0.out x5_1 p9922068 q9922068; have hw9922068_2 := hx9922068_2; have hw9922068_1 := hx9922068_1; have hw9922068_0 := hx9922068_0; cases e9922068; replace hx9922068_0 := cT_ HB.out hx9922068_0; replace hx9922068_1 := cT_ HB.out hx9922068_1; replace hx9922068_2 := cT_ HB.out hx9922068_2; have HR327_2 := a_ hi327_2; have HC327_2 := a_ hl9922068_2; clear hi327_2 hl9922068_2; replace p9922068 := eq_true p9922068; replace q9922068 := eq_true q9922068; have p9548309 : 0 ≤ (x5_1 : Int) := of_decide_eq_true y3_; have q9548309 : x5_1 < (l1.length : Int) := of_decide_eq_true y3_; obtain ⟨ad9548309, A328_2, c328_2, e9548309, hx9548309_0, hx9548309_1, hx9548309_2, hl9548309_2, hi328_2⟩ := at_T40 HR1.out x5_1 p9548309 q9548309; have hw9548309_2 := hx9548309_2; have hw9548309_1 := hx9548309_1; have hw9548309_0 := hx9548309_0; cases e9548309; replace hx9548309_0 := cT_ HB.out hx9548309_0; replace hx9548309_1 := cT_ HB.out hx9548309_1; replace hx9548309_2 := cT_ HB.out hx9548309_2; have HR328_2 := a_ hi328_2; have HC328_2 := a_ hl9548309_2; clear hi328_2 hl9548309_2; replace p9548309 := eq_true p9548309; replace q9548309 := eq_true q9548309; refine start_ (n := 10) (S := fun w' => w'.cell? (ad9922068.add ((x5_1).toNat * 3)) = some (.string ((rd_T40 l0 x5_1).f0)) ∧ w'.cell? ⟨(ad9922068.add ((x5_1).toNat * 3)).block, (ad9922068.add ((x5_1).toNat * 3)).off + 1, none⟩ = some (.int .i64 ((rd_T40 l0 x5_1).f1)) ∧ w'.cell? ⟨(ad9922068.add ((x5_1).toNat * 3)).block, (ad9922068.add ((x5_1).toNat * 3)).off + 2, none⟩ = some (.slice A327_2 ((rd_T40 l0 x5_1).f2).length c327_2) ∧ w'.cell? (ad9548309.add ((x5_1).toNat * 3)) = some (.string ((rd_T40 l1 x5_1).f0)) ∧ w'.cell? ⟨(ad9548309.add ((x5_1).toNat * 3)).block, (ad9548309.add ((x5_1).toNat * 3)).off + 1, none⟩ = some (.int .i64 ((rd_T40 l1 x5_1).f1)) ∧ w'.cell? ⟨(ad9548309.add ((x5_1).toNat * 3)).block, (ad9548309.add ((x5_1).toNat * 3)).off + 2, none⟩ = some (.slice A328_2 ((rd_T40 l1 x5_1).f2).length c328_2)) (ds := []) #[F_,F_,F_,F_,F_,F_,F_,F_,F_,F_] y23_ rfl rfl ⟨(cT_ HB.out hw9922068_0 :), (cT_ HB.out hw9922068_1 :), (cT_ HB.out hw9922068_2 :), (cT_ HB.out hw9548309_0 :), (cT_ HB.out hw9548309_1 :), (cT_ HB.out hw9548309_2 :)⟩ (fun hHeld => ?_); refine with_tabW laws_eqElemS.tab6 laws_eqElemS.bits6 (fun HT_ HW_ => ?_)
       generalize wr.drew = w9497698 at HB HR327_2 HR328_2 hx9922068_0 hx9922068_1 hx9922068_2 hx9548309_0 hx9548309_1 hx9548309_2 hHeld ⊢; refine pure_ (i := 0) (N := some 17) #[T_,F_,F_,F_,F_,F_,F_,F_,F_,F_] rfl rfl z1_ (fun _ _ _ h => h) (Or.inl ⟨rfl, z2_⟩) z3_ ?_; refine pure_ (i := 1) (N := some 18) #[T_,T_,F_,F_,F_,F_,F_,F_,F_,F_] rfl rfl z1_ (fun _ _ _ h => h) (Or.inl ⟨rfl, z2_⟩) z3_ ?_; refine pure_ (i := 2) (N := some 19) #[T_,T_,T_,F_,F_,F_,F_,F_,F_,F_] rfl rfl z1_ (fun _ _ _ h => h) (Or.inl ⟨rfl, z2_⟩) z3_ ?_; refine pure_ (i := 4) (N := some 21) #[T_,T_,T_,F_,T_,F_,F_,F_,F_,F_] rfl rfl z1_ (fun _ _ _ h => h) (Or.inl ⟨rfl, z2_⟩) z3_ ?_; refine pure_ (i := 5) (N := some 22) #[T_,T_,T_,F_,T_,T_,F_,F_,F_,F_] rfl rfl z1_ (fun _ _ _ h => h) (Or.inl ⟨rfl, z2_⟩) z3_ ?_; refine pure_ (i := 6) (N := some 23) #[T_,T_,T_,F_,T_,T_,T_,F_,F_,F_] rfl rfl z1_ (fun _ _ _ h => h) (Or.inl ⟨rfl, z2_⟩) z3_ ?_; refine take_ (i := 3) (N := some 20) #[T_,T_,T_,T_,T_,T_,T_,F_,F_,F_] rfl rfl z4_ (fun _ _ _ h => h) (Or.inl ⟨rfl, z26_⟩) hHeld z3_ ?_; refine take_ (i := 7) (N := some 24) #[T_,T_,T_,T_,T_,T_,T_,T_,F_,F_] rfl rfl z4_ (fun _ _ _ h => h) (Or.inl ⟨rfl, z26_⟩) hHeld z3_ ?_; refine one_ (i := 8) (N := some 25) #[T_,T_,T_,T_,T_,T_,T_,T_,T_,F_] rfl rfl (one_of HT_.out y23_) y48_ (fun K hK => ?_); refine goes_ Tryz.func18 y23_ rfl #[.agg #[.string ((rd_T40 l0 x5_1).f0), .int .i64 ((rd_T40 l0 x5_1).f1), .slice A327_2 ((rd_T40 l0 x5_1).f2).length c327_2], .agg #[.string ((rd_T40 l1 x5_1).f0), .int .i64 ((rd_T40 l1 x5_1).f1), .slice A328_2 ((rd_T40 l1 x5_1).f2).length c328_2]] (by rfl) rfl rfl y10_ ?_; with_reducible refine (laws_eqElem.calls k1 ((rd_T40 l0 x5_1).f0) ((rd_T40 l0 x5_1).f1) _ _ ((rd_T40 l0 x5_1).f2) ((rd_T40 l1 x5_1).f0) ((rd_T40 l1 x5_1).f1) _ _ ((rd_T40 l1 x5_1).f2) _ _ ?side1 ?side2 ?side3 ?side4 Ax4.out).mono ?_
       (case side1 => repeat (first | exact (Kd.C_below HR327_2.out HB.out) | (with_reducible refine Kd.C_alloc ?_ _) | (with_reducible refine Kd.C_drewN ?_ _) | (with_reducible refine Kd.C_drew ?_))); (case side2 => exact HC327_2.out); (case side3 => repeat (first | exact (Kd.C_below HR328_2.out HB.out) | (with_reducible refine Kd.C_alloc ?_ _) | (with_reducible refine Kd.C_drewN ?_ _) | (with_reducible refine Kd.C_drew ?_))); (case side4 => exact HC328_2.out); rintro e w9985327 ⟨rfl, hb⟩; refine ⟨_, rfl, ?_⟩; have n0_ := a_ (below_step y0_ hb); clear HB; have HB := n0_; clear n0_; (try clear hb); (try clear hb9800335); (try clear hk); (try clear hi); refine hK.out _ _ ⟨(cT_ HB.out hw9922068_0 :), (cT_ HB.out hw9922068_1 :), (cT_ HB.out hw9922068_2 :), (cT_ HB.out hw9548309_0 :), (cT_ HB.out hw9548309_1 :), (cT_ HB.out hw9548309_2 :)⟩ (fun hHeld => ?_); clear hK K; refine norm_ z14_ ?_; refine pure_ (i := 9) (N := some 26) #[T_,T_,T_,T_,T_,T_,T_,T_,T_,T_] rfl rfl z1_ (fun _ _ _ h => h) (Or.inl ⟨rfl, z2_⟩) z3_ ?_; refine done_ (done_of HT_.out y23_) ?_; try go_wp2)
     first
     | fail_if_success clear m1_1
     |(clear m1_1; go_roundg k1
       case measure => have := HK1.out; omega
       case rel => exact ⟨(wrap64 (x5_1 + 1)), y2_, H', ⟨y29_⟩, ⟨y0_⟩⟩)
     first
     | fail_if_success clear m1_2
     |(clear m1_2; go_ret
       exact ⟨y6_, y0_⟩)
     first
     | fail_if_success clear m1_3
     |(clear m1_3; go_wp2
       go_ret
       exact ⟨y6_, y0_⟩))
 ·rw [if_neg cx0] at H; have cx0b0 : ((l0.length : Int) == (l1.length : Int)) = false := beq_eq_false_iff_ne.mpr cx0; have cx0b1 : ((l0.length : Int) != (l1.length : Int)) = true := bne_iff_ne.mpr cx0; have cx0b2 : (l0.length == l1.length) = false := by first | simpa using cx0 | (simp at cx0 ⊢; omega)
  obtain rfl := Option.some.inj H; go_enter Tryz.func9, Tryz.ntmps9
  go_wp2
  go_ret
  exact ⟨y6_, y0_⟩

end Go.Proofs.YthoamjobclfjjaaGreat.R
