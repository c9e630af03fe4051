-- Written by a program of this session's own (xp.py) for this seat.
import Derived.Test.YtcpcenhpmcfmjaaFZ
import Derived.Test.YtcpcenhpmcfmjaaF0
import Derived.Test.YtcpcenhpmcfmjaaF9
namespace Go.Proofs.Ytcpcenhpmcfmjaa.F
open Go.RowKit Go.Proofs.YtcpcenhpmcfmjaaW.PrintWords Go.Proofs.YtcpcenhpmcfmjaaW.PrintLast Go.Proofs.YtcpcenhpmcfmjaaW.PrintMore
attribute [local go_sem] Instr.field asAgg
attribute [local go_sem] max2_int min2_int max_two min_two max_three min_three max_four min_four   -- for this text's walks alone
set_option linter.unusedVariables false
set_option linter.unusedSimpArgs false

/-! ### laws_eqFlowS: function 46 -/
def laws_eqFlowS.l0 : Nat → List (S106) → List (S106) → Int → Option (Bool)
  | 0, _, _, _ => none
  | k + 1, x0, x1, x5 => if x5 < (x0.length : Int) then (if 0 ≤ x5 then (if x5 < (x1.length : Int) then ((laws_eqFlow.f k ((rd_T106 x0 x5).f0) ((rd_T106 x0 x5).f1) ((rd_T106 x0 x5).f2) ((rd_T106 x1 x5).f0) ((rd_T106 x1 x5).f1) ((rd_T106 x1 x5).f2)).bind fun t316 => (if t316 = true then (laws_eqFlowS.l0 k x0 x1 (wrap64 (x5 + 1))) else (some false))) else (none)) else (none)) else (some true)
def laws_eqFlowS.f (k : Nat) (l0 : List (S106)) (l1 : List (S106)) : Option (Bool) := if (l0.length : Int) = (l1.length : Int) then (laws_eqFlowS.l0 k l0 l1 0) else (some false)
theorem laws_eqFlowS.mono_l : ∀ k, (∀ y0 y1 y2, LeO (laws_eqFlowS.l0 k y0 y1 y2) (laws_eqFlowS.l0 (k + 1) y0 y1 y2))
  | 0 => fun _ _ _ r h => by simp [laws_eqFlowS.l0] at h
  | k + 1 => by
    have ih0 := laws_eqFlowS.mono_l k
    · intro y0 y1 y2
      unfold laws_eqFlowS.l0
      repeat' (with_reducible first | exact ih0 _ _ _ | exact laws_eqFlow.mono _ _ _ _ _ _ _ | exact LeO.refl _ | exact LeO.none _ | refine LeO.ite ?_ ?_ | refine LeO.bind ?_ (fun _ => ?_))
theorem laws_eqFlowS.mono : ∀ a0 a1 k, LeO (laws_eqFlowS.f k a0 a1) (laws_eqFlowS.f (k + 1) a0 a1) := by
  intro a0 a1 k
  have ih0 := laws_eqFlowS.mono_l k
  unfold laws_eqFlowS.f
  repeat' (with_reducible first | exact ih0 _ _ _ | exact laws_eqFlow.mono _ _ _ _ _ _ _ | exact LeO.refl _ | exact LeO.none _ | refine LeO.ite ?_ ?_ | refine LeO.bind ?_ (fun _ => ?_))
def laws_eqFlowS.T6 : Bool × List (List Nat × List Nat) := (true, [([], []), ([], []), ([0, 1], [0, 1]), ([2], [2]), ([], []), ([], []), ([4, 5], [4, 5]), ([6], [6]), ([3, 7], [3, 7]), ([8], [8])])
def laws_eqFlowS.B6 : List Nat := [0, 0, 3, 7, 0, 0, 48, 112, 255, 511]
theorem laws_eqFlowS.tab6 : rtab .any (opsOf Try.f46 6) = laws_eqFlowS.T6 := by kernel_rfl
theorem laws_eqFlowS.bits6 : waitsOk laws_eqFlowS.T6.2 laws_eqFlowS.B6 = true := by kernel_rfl
set_option maxHeartbeats 8000000 in
set_option maxRecDepth 100000 in
theorem laws_eqFlowS.calls (k : Nat) (A0 : Option Addr) (c0 : Nat) (l0 : List (S106)) (A1 : Option Addr) (c1 : Nat) (l1 : List (S106)) (r : Bool) (w : World) (hr0 : Kd.C k106 w A0 l0.length l0) (hc0 : l0.length ≤ c0) (hr1 : Kd.C k106 w A1 l1.length l1) (hc1 : l1.length ≤ c1) (h : laws_eqFlowS.f k l0 l1 = some r) :
    Calls Try.prog 46 #[.slice A0 l0.length c0, .slice A1 l1.length c1] w fun e w' => e = .returned (.bool r) ∧ Below w.heap.size w w' := by
 have hu106 := Try.underlying106; have HR0 := a_ hr0; have HC0 := a_ hc0; clear hr0 hc0; have HR1 := a_ hr1; have HC1 := a_ hc1; clear hr1 hc1; have HB := a_ (Below.refl w.heap.size w); have H : (if (l0.length : Int) = (l1.length : Int) then (laws_eqFlowS.l0 k l0 l1 0) else (some false)) = some r := h; clear h; by_cases cx0 : (l0.length : Int) = (l1.length : Int)
 ·rw [if_pos cx0] at H; have cx0b0 : ((l0.length : Int) == (l1.length : Int)) = true := beq_iff_eq.mpr cx0; have cx0b1 : ((l0.length : Int) != (l1.length : Int)) = false := bne_eq_false_iff_eq.mpr cx0; have cx0b2 : (l0.length == l1.length) = true := by first | simpa using cx0 | (simp at cx0 ⊢; omega)
  clear cx0; have H' := a_ H; clear H; go_enter Try.func46, Try.ntmps46
  go_wp2
  go_loopg [5] k (fun kq v5 w' => ∃ (x5_1 : Int), v5 = .int .i64 x5_1 ∧ Aside0 (laws_eqFlowS.l0 kq l0 l1 x5_1 = some r) ∧ Aside0 (kq ≤ k) ∧ Aside0 (Below w.heap.size w w'))
  case atStart => exact ⟨(0), y6_, H', ⟨Nat.le_refl _⟩, ⟨y0_⟩⟩
  case round =>
   clear H'; (try clear cx0); (try clear cx0b0); (try clear cx0b1); (try clear cx0b2); obtain ⟨x5_1, rfl, HA, HK1, HB⟩ := hrel; cases gk with
   | zero => exact absurd HA.out (by simp [laws_eqFlowS.l0])
   | succ k1 =>
    have H := HA.out; clear HA; simp only [laws_eqFlowS.l0] at H; by_cases cx1 : x5_1 < (l0.length : Int); rw [if_pos cx1] at H; have cx1b0 : decide (x5_1 < (l0.length : Int)) = true := decide_eq_true cx1; clear cx1; by_cases cx2 : 0 ≤ x5_1; rw [if_pos cx2] at H; have cx2b0 : decide (0 ≤ x5_1) = true := decide_eq_true cx2; clear cx2; by_cases cx3 : x5_1 < (l1.length : Int); rw [if_pos cx3] at H; have cx3b0 : decide (x5_1 < (l1.length : Int)) = true := decide_eq_true cx3; clear cx3; replace H := Option.bind_eq_some_iff.mp H; obtain ⟨tx4, Ay4, H⟩ := H; have Ax4 := a_ Ay4; clear Ay4; by_cases cx5 : tx4 = true; subst cx5; rw [if_pos rfl] at H; have H' := a_ H; clear H; have m1_0 := t_; have m1_1 := t_; rotate_left; replace cx5 := Bool.eq_false_iff.mpr cx5; subst cx5; rw [if_neg (show ¬ (false = true) by decide)] at H; obtain rfl := Option.some.inj H; have m1_0 := t_; have m1_2 := t_; rotate_left
    ·rw [if_neg cx3] at H; exact absurd H y166_
    ·rw [if_neg cx2] at H; exact absurd H y166_
    rw [if_neg cx1] at H; have cx1b0 : decide (x5_1 < (l0.length : Int)) = false := decide_eq_false cx1; clear cx1; obtain rfl := Option.some.inj H; have m1_3 := t_; rotate_left
    all_goals (
     first
     | fail_if_success clear m1_0
     |(clear m1_0; try go_wp2
       have n0_ := a_ (below_drew1 HB.out); clear HB; have HB := n0_; clear n0_; have p9922068 : 0 ≤ (x5_1 : Int) := of_decide_eq_true y7_; have q9922068 : x5_1 < (l0.length : Int) := of_decide_eq_true y7_; obtain ⟨ad9922068, A314_2, c314_2, e9922068, hx9922068_0, hx9922068_1, hx9922068_2, hl9922068_2, hi314_2⟩ := at_T106 HR0.out x5_1 p9922068 q9922068; have hw9922068_2 := hx9922068_2; have hw9922068_1 := hx9922068_1; have hw9922068_0 := hx9922068_0; cases e9922068; replace hx9922068_0 := cT_ HB.out hx9922068_0; replace hx9922068_1 := cT_ HB.out hx9922068_1; replace hx9922068_2 := cT_ HB.out hx9922068_2; have HR314_2 := a_ hi314_2; have HC314_2 := a_ hl9922068_2; clear hi314_2 hl9922068_2; replace p9922068 := eq_true p9922068; replace q9922068 := eq_true q9922068; have p9548309 : 0 ≤ (x5_1 : Int) := of_decide_eq_true y7_; have q9548309 : x5_1 < (l1.length : Int) := of_decide_eq_true y7_; obtain ⟨ad9548309, A315_2, c315_2, e9548309, hx9548309_0, hx9548309_1, hx9548309_2, hl9548309_2, hi315_2⟩ := at_T106 HR1.out x5_1 p9548309 q9548309; have hw9548309_2 := hx9548309_2; have hw9548309_1 := hx9548309_1; have hw9548309_0 := hx9548309_0; cases e9548309; replace hx9548309_0 := cT_ HB.out hx9548309_0; replace hx9548309_1 := cT_ HB.out hx9548309_1; replace hx9548309_2 := cT_ HB.out hx9548309_2; have HR315_2 := a_ hi315_2; have HC315_2 := a_ hl9548309_2; clear hi315_2 hl9548309_2; replace p9548309 := eq_true p9548309; replace q9548309 := eq_true q9548309
       refine start_ (n := 10) (S := fun w' => w'.cell? (ad9922068.add ((x5_1).toNat * 3)) = some (.int .i64 ((rd_T106 l0 x5_1).f0)) ∧ w'.cell? ⟨(ad9922068.add ((x5_1).toNat * 3)).block, (ad9922068.add ((x5_1).toNat * 3)).off + 1, none⟩ = some (.int .i64 ((rd_T106 l0 x5_1).f1)) ∧ w'.cell? ⟨(ad9922068.add ((x5_1).toNat * 3)).block, (ad9922068.add ((x5_1).toNat * 3)).off + 2, none⟩ = some (.slice A314_2 ((rd_T106 l0 x5_1).f2).length c314_2) ∧ w'.cell? (ad9548309.add ((x5_1).toNat * 3)) = some (.int .i64 ((rd_T106 l1 x5_1).f0)) ∧ w'.cell? ⟨(ad9548309.add ((x5_1).toNat * 3)).block, (ad9548309.add ((x5_1).toNat * 3)).off + 1, none⟩ = some (.int .i64 ((rd_T106 l1 x5_1).f1)) ∧ w'.cell? ⟨(ad9548309.add ((x5_1).toNat * 3)).block, (ad9548309.add ((x5_1).toNat * 3)).off + 2, none⟩ = some (.slice A315_2 ((rd_T106 l1 x5_1).f2).length c315_2)) (ds := []) #[F_,F_,F_,F_,F_,F_,F_,F_,F_,F_] y58_ rfl rfl ⟨(cT_ HB.out hw9922068_0 :), (cT_ HB.out hw9922068_1 :), (cT_ HB.out hw9922068_2 :), (cT_ HB.out hw9548309_0 :), (cT_ HB.out hw9548309_1 :), (cT_ HB.out hw9548309_2 :)⟩ (fun hHeld => ?_); refine with_tabW laws_eqFlowS.tab6 laws_eqFlowS.bits6 (fun HT_ HW_ => ?_); generalize wr.drew = w9497698 at HB HR314_2 HR315_2 hx9922068_0 hx9922068_1 hx9922068_2 hx9548309_0 hx9548309_1 hx9548309_2 hHeld ⊢; refine pure_ (i := 0) (N := some 17) #[T_,F_,F_,F_,F_,F_,F_,F_,F_,F_] rfl rfl z0_ (fun _ _ _ h => h) (Or.inl ⟨rfl, z1_⟩) z2_ ?_; refine pure_ (i := 1) (N := some 18) #[T_,T_,F_,F_,F_,F_,F_,F_,F_,F_] rfl rfl z0_ (fun _ _ _ h => h) (Or.inl ⟨rfl, z1_⟩) z2_ ?_; refine pure_ (i := 2) (N := some 19) #[T_,T_,T_,F_,F_,F_,F_,F_,F_,F_] rfl rfl z0_ (fun _ _ _ h => h) (Or.inl ⟨rfl, z1_⟩) z2_ ?_; refine pure_ (i := 4) (N := some 21) #[T_,T_,T_,F_,T_,F_,F_,F_,F_,F_] rfl rfl z0_ (fun _ _ _ h => h) (Or.inl ⟨rfl, z1_⟩) z2_ ?_; refine pure_ (i := 5) (N := some 22) #[T_,T_,T_,F_,T_,T_,F_,F_,F_,F_] rfl rfl z0_ (fun _ _ _ h => h) (Or.inl ⟨rfl, z1_⟩) z2_ ?_; refine pure_ (i := 6) (N := some 23) #[T_,T_,T_,F_,T_,T_,T_,F_,F_,F_] rfl rfl z0_ (fun _ _ _ h => h) (Or.inl ⟨rfl, z1_⟩) z2_ ?_; refine take_ (i := 3) (N := some 20) #[T_,T_,T_,T_,T_,T_,T_,F_,F_,F_] rfl rfl z3_ (fun _ _ _ h => h) (Or.inl ⟨rfl, z4_⟩) hHeld z2_ ?_; refine take_ (i := 7) (N := some 24) #[T_,T_,T_,T_,T_,T_,T_,T_,F_,F_] rfl rfl z3_ (fun _ _ _ h => h) (Or.inl ⟨rfl, z4_⟩) hHeld z2_ ?_; refine one_ (i := 8) (N := some 25) #[T_,T_,T_,T_,T_,T_,T_,T_,T_,F_] rfl rfl (one_of HT_.out y58_) y80_ (fun K hK => ?_)
       refine goes_ Try.func88 y58_ rfl #[.agg #[.int .i64 ((rd_T106 l0 x5_1).f0), .int .i64 ((rd_T106 l0 x5_1).f1), .slice A314_2 ((rd_T106 l0 x5_1).f2).length c314_2], .agg #[.int .i64 ((rd_T106 l1 x5_1).f0), .int .i64 ((rd_T106 l1 x5_1).f1), .slice A315_2 ((rd_T106 l1 x5_1).f2).length c315_2]] (by rfl) rfl rfl y13_ ?_; with_reducible refine (laws_eqFlow.calls k1 ((rd_T106 l0 x5_1).f0) ((rd_T106 l0 x5_1).f1) _ _ ((rd_T106 l0 x5_1).f2) ((rd_T106 l1 x5_1).f0) ((rd_T106 l1 x5_1).f1) _ _ ((rd_T106 l1 x5_1).f2) _ _ ?side1 ?side2 ?side3 ?side4 Ax4.out).mono ?_
       (case side1 => repeat (first | exact (Kd.C_below HR314_2.out HB.out) | (with_reducible refine Kd.C_alloc ?_ _) | (with_reducible refine Kd.C_drewN ?_ _) | (with_reducible refine Kd.C_drew ?_))); (case side2 => exact HC314_2.out); (case side3 => repeat (first | exact (Kd.C_below HR315_2.out HB.out) | (with_reducible refine Kd.C_alloc ?_ _) | (with_reducible refine Kd.C_drewN ?_ _) | (with_reducible refine Kd.C_drew ?_))); (case side4 => exact HC315_2.out); rintro e w9985327 ⟨rfl, hb⟩; refine ⟨_, rfl, ?_⟩; have n0_ := a_ (below_step y0_ hb); clear HB; have HB := n0_; clear n0_; (try clear hb); (try clear hb9800335); (try clear hk); (try clear hi); refine hK.out _ _ ⟨(cT_ HB.out hw9922068_0 :), (cT_ HB.out hw9922068_1 :), (cT_ HB.out hw9922068_2 :), (cT_ HB.out hw9548309_0 :), (cT_ HB.out hw9548309_1 :), (cT_ HB.out hw9548309_2 :)⟩ (fun hHeld => ?_); clear hK K; refine norm_ z5_ ?_; refine pure_ (i := 9) (N := some 26) #[T_,T_,T_,T_,T_,T_,T_,T_,T_,T_] rfl rfl z0_ (fun _ _ _ h => h) (Or.inl ⟨rfl, z1_⟩) z2_ ?_; refine done_ (done_of HT_.out y58_) ?_; try go_wp2)
     first
     | fail_if_success clear m1_1
     |(clear m1_1; go_roundg k1
       case measure => have := HK1.out; omega
       case rel => exact ⟨(wrap64 (x5_1 + 1)), y6_, H', ⟨y91_⟩, ⟨y0_⟩⟩)
     first
     | fail_if_success clear m1_2
     |(clear m1_2; go_ret
       exact ⟨y5_, y0_⟩)
     first
     | fail_if_success clear m1_3
     |(clear m1_3; go_wp2
       go_ret
       exact ⟨y5_, y0_⟩))
 ·rw [if_neg cx0] at H; have cx0b0 : ((l0.length : Int) == (l1.length : Int)) = false := beq_eq_false_iff_ne.mpr cx0; have cx0b1 : ((l0.length : Int) != (l1.length : Int)) = true := bne_iff_ne.mpr cx0; have cx0b2 : (l0.length == l1.length) = false := by first | simpa using cx0 | (simp at cx0 ⊢; omega)
  obtain rfl := Option.some.inj H; go_enter Try.func46, Try.ntmps46
  go_wp2
  go_ret
  exact ⟨y5_, y0_⟩

/-! ### laws_eqGraph: function 15 -/
def laws_eqGraph.f (k : Nat) (l0_0 : List (S108)) (l0_1 : List (S106)) (l1_0 : List (S108)) (l1_1 : List (S106)) : Option (Bool) := (laws_eqGNodeS.f k l0_0 l1_0).bind fun t319 => (if t319 = true then ((laws_eqFlowS.f k l0_1 l1_1).bind fun t320 => (if t320 = true then (some true) else (some false))) else (some false))
theorem laws_eqGraph.mono : ∀ a0 a1 a2 a3 k, LeO (laws_eqGraph.f k a0 a1 a2 a3) (laws_eqGraph.f (k + 1) a0 a1 a2 a3) := by
  intro a0 a1 a2 a3 k
  unfold laws_eqGraph.f
  repeat' (with_reducible first | exact laws_eqFlowS.mono _ _ _ | exact laws_eqGNodeS.mono _ _ _ | exact LeO.refl _ | exact LeO.none _ | refine LeO.ite ?_ ?_ | refine LeO.bind ?_ (fun _ => ?_))
set_option maxHeartbeats 8000000 in
set_option maxRecDepth 100000 in
theorem laws_eqGraph.calls (k : Nat) (A0_0 : Option Addr) (c0_0 : Nat) (l0_0 : List (S108)) (A0_1 : Option Addr) (c0_1 : Nat) (l0_1 : List (S106)) (A1_0 : Option Addr) (c1_0 : Nat) (l1_0 : List (S108)) (A1_1 : Option Addr) (c1_1 : Nat) (l1_1 : List (S106)) (r : Bool) (w : World) (hr0_0 : Kd.C k108 w A0_0 l0_0.length l0_0) (hc0_0 : l0_0.length ≤ c0_0) (hr0_1 : Kd.C k106 w A0_1 l0_1.length l0_1) (hc0_1 : l0_1.length ≤ c0_1) (hr1_0 : Kd.C k108 w A1_0 l1_0.length l1_0) (hc1_0 : l1_0.length ≤ c1_0) (hr1_1 : Kd.C k106 w A1_1 l1_1.length l1_1) (hc1_1 : l1_1.length ≤ c1_1) (h : laws_eqGraph.f k l0_0 l0_1 l1_0 l1_1 = some r) :
    Calls Try.prog 15 #[.agg #[.slice A0_0 l0_0.length c0_0, .slice A0_1 l0_1.length c0_1], .agg #[.slice A1_0 l1_0.length c1_0, .slice A1_1 l1_1.length c1_1]] w fun e w' => e = .returned (.bool r) ∧ Below w.heap.size w w' := by
 have hu34 := Try.underlying34; have HR0_0 := a_ hr0_0; have HC0_0 := a_ hc0_0; clear hr0_0 hc0_0; have HR0_1 := a_ hr0_1; have HC0_1 := a_ hc0_1; clear hr0_1 hc0_1; have HR1_0 := a_ hr1_0; have HC1_0 := a_ hc1_0; clear hr1_0 hc1_0; have HR1_1 := a_ hr1_1; have HC1_1 := a_ hc1_1; clear hr1_1 hc1_1; have HB := a_ (Below.refl w.heap.size w); have H : ((laws_eqGNodeS.f k l0_0 l1_0).bind fun t319 => (if t319 = true then ((laws_eqFlowS.f k l0_1 l1_1).bind fun t320 => (if t320 = true then (some true) else (some false))) else (some false))) = some r := h; clear h; replace H := Option.bind_eq_some_iff.mp H; obtain ⟨tx0, Ay0, H⟩ := H; have Ax0 := a_ Ay0; clear Ay0; by_cases cx1 : tx0 = true; subst cx1; rw [if_pos rfl] at H; replace H := Option.bind_eq_some_iff.mp H; obtain ⟨tx2, Ay2, H⟩ := H; have Ax2 := a_ Ay2; clear Ay2; by_cases cx3 : tx2 = true; subst cx3; rw [if_pos rfl] at H; obtain rfl := Option.some.inj H; have m0_0 := t_; rotate_left; replace cx3 := Bool.eq_false_iff.mpr cx3; subst cx3; rw [if_neg (show ¬ (false = true) by decide)] at H; obtain rfl := Option.some.inj H; have m0_0 := t_; rotate_left; replace cx1 := Bool.eq_false_iff.mpr cx1; subst cx1; rw [if_neg (show ¬ (false = true) by decide)] at H; obtain rfl := Option.some.inj H; have m0_1 := t_; rotate_left
 all_goals (
  go_enter Try.func15, Try.ntmps15
  go_wp2_with (first | ((with_reducible refine gate_dst (N := 2) rfl ?_); refine box_event zr_ (N := 2) zr_ (cs := #[.slice A0_0 l0_0.length c0_0, .slice A0_1 l0_1.length c0_1]) (t := 34) zs_ ?_; intro gb9954793 hg w9862269 hbox hb; have n0_ := a_ (below_step y0_ hb); have n1_ := a_ (hbox); have n2_ := a_ ((by rw [hg]; exact (below_size y0_) : w.heap.size ≤ gb9954793)); have n3_ := a_ ((by rw [hg]; exact (below_size y0_) : w.heap.size ≤ gb9954793)); clear HB; have HB := n0_; have BK9954793 := n1_; have GW9954793 := n2_; have GE9954793 := n3_; clear n0_ n1_ n2_ n3_; clear hb hbox hg) | ((with_reducible refine gate_dst (N := 3) rfl ?_); refine box_event zr_ (N := 3) zr_ (cs := #[.slice A1_0 l1_0.length c1_0, .slice A1_1 l1_1.length c1_1]) (t := 34) zs_ ?_; intro gb9350387 hg w9515884 hbox hb; have n0_ := a_ (blk_below (g := gb9954793) (o := .cells #[.slice A0_0 l0_0.length c0_0, .slice A0_1 l0_1.length c0_1] 34 (0, 0)) y12_ hb); have n1_ := a_ (below_step y16_ hb); have n2_ := a_ (hbox); have n3_ := a_ ((by rw [hg]; exact (below_size y16_) : w.heap.size ≤ gb9350387)); have n4_ := a_ ((by rw [hg]; exact (below_size y16_) : w.heap.size ≤ gb9350387)); have n5_ := a_ ((by rw [hg]; exact Nat.ne_of_lt (blk_lt (g := gb9954793) (o := .cells #[.slice A0_0 l0_0.length c0_0, .slice A0_1 l0_1.length c0_1] 34 (0, 0)) y12_) : gb9954793 ≠ gb9350387)); have n6_ := a_ ((by rw [hg]; exact Nat.ne_of_gt (blk_lt (g := gb9954793) (o := .cells #[.slice A0_0 l0_0.length c0_0, .slice A0_1 l0_1.length c0_1] 34 (0, 0)) y12_) : gb9350387 ≠ gb9954793)); clear BK9954793; clear HB; have BK9954793 := n0_; have HB := n1_; have BK9350387 := n2_; have GW9350387 := n3_; have GE9350387 := n4_; have NB317_318 := n5_; have NB318_317 := n6_; clear n0_ n1_ n2_ n3_ n4_ n5_ n6_; clear hb hbox hg; have hnb9790433 := NB317_318.out; have hnc9790433 := NB318_317.out; have hcz9655935_0 : w9515884.cell? ⟨gb9954793, 0, none⟩ = some (.slice A0_0 l0_0.length c0_0) := (blk_cell BK9954793.out 0).trans rfl; have hcz9655935_1 : w9515884.cell? ⟨gb9954793, 1, none⟩ = some (.slice A0_1 l0_1.length c0_1) := (blk_cell BK9954793.out 1).trans rfl; have hfz9655935_0 := blk_frozen BK9954793.out 0; have hfz9655935_1 := blk_frozen BK9954793.out 1; have hcz9373184_0 : w9515884.cell? ⟨gb9350387, 0, none⟩ = some (.slice A1_0 l1_0.length c1_0) := (blk_cell BK9350387.out 0).trans rfl; have hcz9373184_1 : w9515884.cell? ⟨gb9350387, 1, none⟩ = some (.slice A1_1 l1_1.length c1_1) := (blk_cell BK9350387.out 1).trans rfl; have hfz9373184_0 := blk_frozen BK9350387.out 0; have hfz9373184_1 := blk_frozen BK9350387.out 1) | (have mkq_ := m0_0; clear mkq_; (with_reducible refine gate_callee (f := 45) rfl ?_); refine gc_ 45 9 Try.func45 #[.slice A0_0 l0_0.length c0_0, .slice A1_0 l1_0.length c1_0] ?_; (with_reducible refine (laws_eqGNodeS.calls k _ _ l0_0 _ _ l1_0 _ _ ?side1 ?side2 ?side3 ?side4 Ax0.out).mono ?_); (case side1 => repeat (first | exact (Kd.C_below HR0_0.out HB.out) | (with_reducible refine Kd.C_alloc ?_ _) | (with_reducible refine Kd.C_drewN ?_ _) | (with_reducible refine Kd.C_drew ?_))); (case side2 => exact HC0_0.out); (case side3 => repeat (first | exact (Kd.C_below HR1_0.out HB.out) | (with_reducible refine Kd.C_alloc ?_ _) | (with_reducible refine Kd.C_drewN ?_ _) | (with_reducible refine Kd.C_drew ?_))); (case side4 => exact HC1_0.out); rintro e w9734796 ⟨rfl, hb⟩; refine ⟨_, rfl, ?_⟩; have n0_ := a_ (blk_below (g := gb9954793) (o := .cells #[.slice A0_0 l0_0.length c0_0, .slice A0_1 l0_1.length c0_1] 34 (0, 0)) y12_ hb); have n1_ := a_ (blk_below (g := gb9350387) (o := .cells #[.slice A1_0 l1_0.length c1_0, .slice A1_1 l1_1.length c1_1] 34 (0, 0)) y167_ hb); have n2_ := a_ (below_step y75_ hb); clear BK9954793; clear BK9350387; clear HB; have BK9954793 := n0_; have BK9350387 := n1_; have HB := n2_; clear n0_ n1_ n2_; (try clear hb); (try clear hb9086421); (try clear hk); (try clear hi); have hcz9984689_0 : w9734796.cell? ⟨gb9954793, 0, none⟩ = some (.slice A0_0 l0_0.length c0_0) := (blk_cell BK9954793.out 0).trans rfl; have hcz9984689_1 : w9734796.cell? ⟨gb9954793, 1, none⟩ = some (.slice A0_1 l0_1.length c0_1) := (blk_cell BK9954793.out 1).trans rfl; have hfz9984689_0 := blk_frozen BK9954793.out 0; have hfz9984689_1 := blk_frozen BK9954793.out 1; have hcz9484769_0 : w9734796.cell? ⟨gb9350387, 0, none⟩ = some (.slice A1_0 l1_0.length c1_0) := (blk_cell BK9350387.out 0).trans rfl; have hcz9484769_1 : w9734796.cell? ⟨gb9350387, 1, none⟩ = some (.slice A1_1 l1_1.length c1_1) := (blk_cell BK9350387.out 1).trans rfl; have hfz9484769_0 := blk_frozen BK9350387.out 0; have hfz9484769_1 := blk_frozen BK9350387.out 1) | ((with_reducible refine gate_callee (f := 46) rfl ?_); refine gc_ 46 15 Try.func46 #[.slice A0_1 l0_1.length c0_1, .slice A1_1 l1_1.length c1_1] ?_; (with_reducible refine (laws_eqFlowS.calls k _ _ l0_1 _ _ l1_1 _ _ ?side1 ?side2 ?side3 ?side4 Ax2.out).mono ?_); (case side1 => repeat (first | exact (Kd.C_below HR0_1.out HB.out) | (with_reducible refine Kd.C_alloc ?_ _) | (with_reducible refine Kd.C_drewN ?_ _) | (with_reducible refine Kd.C_drew ?_))); (case side2 => exact HC0_1.out); (case side3 => repeat (first | exact (Kd.C_below HR1_1.out HB.out) | (with_reducible refine Kd.C_alloc ?_ _) | (with_reducible refine Kd.C_drewN ?_ _) | (with_reducible refine Kd.C_drew ?_))); (case side4 => exact HC1_1.out); rintro e w9863043 ⟨rfl, hb⟩; refine ⟨_, rfl, ?_⟩; have n0_ := a_ (blk_below (g := gb9954793) (o := .cells #[.slice A0_0 l0_0.length c0_0, .slice A0_1 l0_1.length c0_1] 34 (0, 0)) y12_ hb); have n1_ := a_ (blk_below (g := gb9350387) (o := .cells #[.slice A1_0 l1_0.length c1_0, .slice A1_1 l1_1.length c1_1] 34 (0, 0)) y167_ hb); have n2_ := a_ (below_step y75_ hb); clear BK9954793; clear BK9350387; clear HB; have BK9954793 := n0_; have BK9350387 := n1_; have HB := n2_; clear n0_ n1_ n2_; (try clear hb); (try clear hb9086421); (try clear hk); (try clear hi)) | (have mkq_ := m0_1; clear mkq_; (with_reducible refine gate_callee (f := 45) rfl ?_); refine gc_ 45 9 Try.func45 #[.slice A0_0 l0_0.length c0_0, .slice A1_0 l1_0.length c1_0] ?_; (with_reducible refine (laws_eqGNodeS.calls k _ _ l0_0 _ _ l1_0 _ _ ?side1 ?side2 ?side3 ?side4 Ax0.out).mono ?_); (case side1 => repeat (first | exact (Kd.C_below HR0_0.out HB.out) | (with_reducible refine Kd.C_alloc ?_ _) | (with_reducible refine Kd.C_drewN ?_ _) | (with_reducible refine Kd.C_drew ?_))); (case side2 => exact HC0_0.out); (case side3 => repeat (first | exact (Kd.C_below HR1_0.out HB.out) | (with_reducible refine Kd.C_alloc ?_ _) | (with_reducible refine Kd.C_drewN ?_ _) | (with_reducible refine Kd.C_drew ?_))); (case side4 => exact HC1_0.out); rintro e w9734796 ⟨rfl, hb⟩; refine ⟨_, rfl, ?_⟩; have n0_ := a_ (blk_below (g := gb9954793) (o := .cells #[.slice A0_0 l0_0.length c0_0, .slice A0_1 l0_1.length c0_1] 34 (0, 0)) y12_ hb); have n1_ := a_ (blk_below (g := gb9350387) (o := .cells #[.slice A1_0 l1_0.length c1_0, .slice A1_1 l1_1.length c1_1] 34 (0, 0)) y167_ hb); have n2_ := a_ (below_step y75_ hb); clear BK9954793; clear BK9350387; clear HB; have BK9954793 := n0_; have BK9350387 := n1_; have HB := n2_; clear n0_ n1_ n2_; (try clear hb); (try clear hb9086421); (try clear hk); (try clear hi)))
  go_ret
  exact ⟨y5_, y75_⟩)

/-! ### laws_markInt64S: function 49 -/
def laws_markInt64S.l0 : Nat → List Int → Int → Int → Option (Int × List Int)
  | 0, _, _, _ => none
  | k + 1, x0, x1, x5 => if x5 < (x0.length : Int) then (if 0 ≤ x5 then (laws_markInt64S.l0 k (x0.set (x5 : Int).toNat x1) (wrap64 (x1 + 1)) (wrap64 (x5 + 1))) else (none)) else (some (x1, x0))
def laws_markInt64S.f (k : Nat) (l0 : List Int) (a1 : Int) : Option (Int × List Int) := laws_markInt64S.l0 k l0 a1 0
theorem laws_markInt64S.mono_l : ∀ k, (∀ y0 y1 y2, LeO (laws_markInt64S.l0 k y0 y1 y2) (laws_markInt64S.l0 (k + 1) y0 y1 y2))
  | 0 => fun _ _ _ r h => by simp [laws_markInt64S.l0] at h
  | k + 1 => by
    have ih0 := laws_markInt64S.mono_l k
    · intro y0 y1 y2
      unfold laws_markInt64S.l0
      repeat' (with_reducible first | exact ih0 _ _ _ | exact LeO.refl _ | exact LeO.none _ | refine LeO.ite ?_ ?_ | refine LeO.bind ?_ (fun _ => ?_))
theorem laws_markInt64S.mono : ∀ a0 a1 k, LeO (laws_markInt64S.f k a0 a1) (laws_markInt64S.f (k + 1) a0 a1) := by
  intro a0 a1 k
  have ih0 := laws_markInt64S.mono_l k
  unfold laws_markInt64S.f
  repeat' (with_reducible first | exact ih0 _ _ _ | exact LeO.refl _ | exact LeO.none _ | refine LeO.ite ?_ ?_ | refine LeO.bind ?_ (fun _ => ?_))
set_option maxHeartbeats 8000000 in
set_option maxRecDepth 100000 in
theorem laws_markInt64S.calls (k : Nat) (P0_ : Nat → Prop) (u9000_ : Value) (l0 : List Int) (a1 : Int) (r1 : Int) (r2 : List Int) (w0 w : World) (hB : Below w0.heap.size w0 w) (ho0 : Kd.R (Kd.int .i64) 2 w w0.heap.size P0_ u9000_ l0) (h : laws_markInt64S.f k l0 a1 = some (r1, r2)) :
    Calls Try.prog 49 #[u9000_, .int .i64 a1] w fun e w' => e = .returned (.int .i64 r1) ∧ Kd.R (Kd.int .i64) 2 w' w0.heap.size (fun k_ => (P0_ k_ ∨ w.heap.size ≤ k_)) u9000_ r2 ∧ Below w0.heap.size w0 w' ∧ Kept w w' (fun k_ => P0_ k_) := by
 have HO0 := a_ (show Kd.R (Kd.int .i64) 2 w w0.heap.size (fun k_ => (P0_ k_ ∨ w.heap.size ≤ k_)) u9000_ l0 from Kd.R_mono ho0 (fun k_ hk => (.inl hk))); have HK := a_ (Kept.refl w (fun k_ => P0_ k_)); have HW0 := a_ hB.size; have HB := a_ hB; clear hB; have H : (laws_markInt64S.l0 k l0 a1 0) = some (r1, r2) := h; clear h; have H' := a_ H; clear H; go_enter Try.func49, Try.ntmps49
 go_wp2
 go_loopg [1, 5] k (fun kq v1 v5 w' => ∃ (x0_1 : List Int) (x1_1 : Int) (x5_1 : Int), v1 = .int .i64 x1_1 ∧ v5 = .int .i64 x5_1 ∧ Aside0 (laws_markInt64S.l0 kq x0_1 x1_1 x5_1 = some (r1, r2)) ∧ Aside0 (kq ≤ k) ∧ Aside0 (Kd.R (Kd.int .i64) 2 w' w0.heap.size (fun k_ => (P0_ k_ ∨ w.heap.size ≤ k_)) u9000_ x0_1) ∧ Aside0 (Kept w w' (fun k_ => P0_ k_)) ∧ Aside0 (Below w0.heap.size w0 w'))
 case atStart => exact ⟨(l0), (a1), (0), y6_, y6_, H', ⟨Nat.le_refl _⟩, ⟨by (with_reducible repeat (first | apply Kd.R_alloc | apply Kd.R_drewN | apply Kd.R_drew)); exact HO0.out⟩, ⟨y29_⟩, ⟨y0_⟩⟩
 case round =>
  clear H'; obtain ⟨x0_1, x1_1, x5_1, rfl, rfl, HA, HK1, HO_0, HK, HB⟩ := hrel; cases gk with
  | zero => exact absurd HA.out (by simp [laws_markInt64S.l0])
  | succ k1 =>
   have H := HA.out; clear HA; simp only [laws_markInt64S.l0] at H; by_cases cx0 : x5_1 < (x0_1.length : Int)
   ·rw [if_pos cx0] at H; have cx0b0 : decide (x5_1 < (x0_1.length : Int)) = true := decide_eq_true cx0; clear cx0; by_cases cx1 : 0 ≤ x5_1
    ·rw [if_pos cx1] at H; have cx1b0 : decide (0 ≤ x5_1) = true := decide_eq_true cx1; clear cx1; obtain ⟨y328, hy_⟩ : ∃ y_ : List Int, y_ = (x0_1.set (x5_1 : Int).toNat x1_1) := ⟨_, rfl⟩; replace H : (laws_markInt64S.l0 k1 y328 (wrap64 (x1_1 + 1)) (wrap64 (x5_1 + 1))) = some (r1, r2) := z6_; have Ny328 := a_ hy_; clear hy_; have H' := a_ H; clear H; obtain ⟨Ao6, co6, eo6⟩ := Kd.R_slice HO_0.out; subst eo6; have p5 : 0 ≤ (x5_1 : Int) := of_decide_eq_true y7_; have q5 : (x5_1 : Int) < ((x0_1.length : Int) : Int) := of_decide_eq_true y7_; obtain ⟨go5, co5, eo5, gb5, gl5, cl5, HG5⟩ := Kd.R_form HO_0.out y165_; (first | cases eo5 | (injection eo5 with ea_ en_ ec_; (first | subst ea_ | (injection ea_ with ea_; subst ea_)); subst ec_; clear en_)); have GB5 := a_ gb5; have GG5 := a_ HG5; clear gb5 gl5 HG5; have HMgo5 := a_ (show (P0_ go5 ∨ w.heap.size ≤ go5) from (HO_0.out.1 _ rfl)); obtain ⟨hx5_0, hf5_0⟩ := Kd.R_celln 0 HO_0.out (x5_1 : Int) p5 q5; replace p5 := eq_true p5; replace q5 := eq_true q5; have HP7 := Kd.R_putg HO_0.out (x5_1 : Int) x1_1; go_wp2_with (first | ((with_reducible refine gate_store (t := 2) (p := 15) rfl ?_); refine store_event (t := 2) (p := 15) (v := ?vo_w8) (w1 := (wr.setCell ⟨go5, (x5_1 : Int).toNat, none⟩ (.int .i64 x1_1))) ?hg ?ho ?hn ?hr ?_; (case ho => rfl); (case hg => rfl); (case hn => rfl); (case hr => first | (go_simp; done) | (go_simp; rfl)); intro w8 hw; have hg : wr.grownBy w8 (some go5) := (by rw [hw]; exact HP7.2); have hp_ : Kd.R (Kd.int .i64) 2 w8 w0.heap.size (fun k_ => (P0_ k_ ∨ w.heap.size ≤ k_)) (.slice (some ⟨go5, 0, none⟩) x0_1.length co6) y328 := (by rw [hw, Ny328.out]; exact HP7.1); clear HP7; have n0_ := a_ (hp_); have n1_ := a_ ((by rw [hw]; exact below_set (HB.out) GB5.out : Below w0.heap.size w0 w8)); have n2_ := a_ (Kept.of_grown (S := (fun k_ => P0_ k_)) hg y29_ (fun k_ e_ => (HO_0.out.1 k_ e_))); clear HO_0; clear HB; clear HK; have HO_0 := n0_; have HB := n1_; have HK := n2_; clear n0_ n1_ n2_; clear hg hw hp_))
     go_roundg k1
     case measure => have := HK1.out; omega
     case rel => exact ⟨(y328), (wrap64 (x1_1 + 1)), (wrap64 (x5_1 + 1)), y6_, y6_, H', ⟨y91_⟩, ⟨y67_⟩, ⟨y29_⟩, ⟨y0_⟩⟩
    ·rw [if_neg cx1] at H; exact absurd H y166_
   ·rw [if_neg cx0] at H; have cx0b0 : decide (x5_1 < (x0_1.length : Int)) = false := decide_eq_false cx0; clear cx0; simp only [Option.some.injEq, Prod.mk.injEq] at H; obtain ⟨rfl, rfl⟩ := H; obtain ⟨Ao9, co9, eo9⟩ := Kd.R_slice HO_0.out; subst eo9; go_wp2
    go_ret
    exact ⟨y5_, y67_, y0_, y29_⟩

/-! ### laws_markIntsResult: function 17 -/
def laws_markIntsResult.f (k : Nat) (a0_0 : Int) (l0_1 : List Int) (a1 : Int) : Option (Int × List Int) := (laws_markInt64S.f k l0_1 a1).bind fun bt330 => (some (bt330.1, bt330.2))
theorem laws_markIntsResult.mono : ∀ a0 a1 a2 k, LeO (laws_markIntsResult.f k a0 a1 a2) (laws_markIntsResult.f (k + 1) a0 a1 a2) := by
  intro a0 a1 a2 k
  unfold laws_markIntsResult.f
  repeat' (with_reducible first | exact laws_markInt64S.mono _ _ _ | exact LeO.refl _ | exact LeO.none _ | refine LeO.ite ?_ ?_ | refine LeO.bind ?_ (fun _ => ?_))
set_option maxHeartbeats 8000000 in
set_option maxRecDepth 100000 in
theorem laws_markIntsResult.calls (k : Nat) (a0_0 : Int) (P0_1_ : Nat → Prop) (u9000_ : Value) (l0_1 : List Int) (a1 : Int) (r1 : Int) (r2 : List Int) (w0 w : World) (hB : Below w0.heap.size w0 w) (ho0_1 : Kd.R (Kd.int .i64) 2 w w0.heap.size P0_1_ u9000_ l0_1) (h : laws_markIntsResult.f k a0_0 l0_1 a1 = some (r1, r2)) :
    Calls Try.prog 17 #[.agg #[.int .i64 a0_0, u9000_], .int .i64 a1] w fun e w' => e = .returned (.int .i64 r1) ∧ Kd.R (Kd.int .i64) 2 w' w0.heap.size (fun k_ => (P0_1_ k_ ∨ w.heap.size ≤ k_)) u9000_ r2 ∧ Below w0.heap.size w0 w' ∧ Kept w w' (fun k_ => P0_1_ k_) := by
 have hu29 := Try.underlying29; have HO0_1 := a_ (show Kd.R (Kd.int .i64) 2 w w0.heap.size (fun k_ => (P0_1_ k_ ∨ w.heap.size ≤ k_)) u9000_ l0_1 from Kd.R_mono ho0_1 (fun k_ hk => (.inl hk))); have HK := a_ (Kept.refl w (fun k_ => P0_1_ k_)); have HW0 := a_ hB.size; have HB := a_ hB; clear hB; have H : ((laws_markInt64S.f k l0_1 a1).bind fun bt330 => (some (bt330.1, bt330.2))) = some (r1, r2) := h; clear h; replace H := Option.bind_eq_some_iff.mp H; obtain ⟨⟨t330, t331⟩, A30, H⟩ := H; replace H : (some (t330, t331)) = some (r1, r2) := H; have A3 := a_ A30; clear A30; simp only [Option.some.injEq, Prod.mk.injEq] at H; obtain ⟨rfl, rfl⟩ := H; obtain ⟨Ao4, co4, eo4⟩ := Kd.R_slice HO0_1.out; subst eo4; go_enter Try.func17, Try.ntmps17
 go_wp2_with (first | ((with_reducible refine gate_dst (N := 2) rfl ?_); refine box_event zr_ (N := 2) zr_ (cs := #[.int .i64 a0_0, .slice Ao4 l0_1.length co4]) (t := 29) zs_ ?_; intro gb329 hg w5 hbox hb; have n0_ := a_ (Kd.R_below (by (with_reducible repeat (first | apply Kd.R_alloc | apply Kd.R_drewN | apply Kd.R_drew)); exact HO0_1.out) hb); have n1_ := a_ (Kept.below (S := (fun k_ => P0_1_ k_)) y29_ hb); have n2_ := a_ (below_step y0_ hb); have n3_ := a_ (hbox); have n4_ := a_ ((by rw [hg]; exact (by first | exact HK.out.1 | exact (show Kept w _ (fun k_ => P0_1_ k_) from by repeat (first | (with_reducible first | exact HK.out | apply Kept.alloc | apply Kept.drewN | apply Kept.drew) | exact HK.out)).1) : w.heap.size ≤ gb329)); have n5_ := a_ ((by rw [hg]; exact (below_size y0_) : w0.heap.size ≤ gb329)); clear HO0_1; clear HK; clear HB; have HO0_1 := n0_; have HK := n1_; have HB := n2_; have BK329 := n3_; have GW329 := n4_; have GE329 := n5_; clear n0_ n1_ n2_ n3_ n4_ n5_; clear hb hbox hg; have hcz6_0 : w5.cell? ⟨gb329, 0, none⟩ = some (.int .i64 a0_0) := (blk_cell BK329.out 0).trans rfl; have hcz6_1 : w5.cell? ⟨gb329, 1, none⟩ = some (.slice Ao4 l0_1.length co4) := (blk_cell BK329.out 1).trans rfl; have hfz6_0 := blk_frozen BK329.out 0; have hfz6_1 := blk_frozen BK329.out 1) | ((with_reducible refine gate_callee (f := 49) rfl ?_); refine gc_ 49 8 Try.func49 #[.slice Ao4 l0_1.length co4, .int .i64 a1] ?_; (with_reducible refine (laws_markInt64S.calls k (fun k_ => some k_ = (.slice Ao4 l0_1.length co4 : Value).ownBlock) (.slice Ao4 l0_1.length co4) l0_1 a1 t330 t331 w0 _ ?side1 ?side2 A3.out).mono ?_); (case side1 => repeat (first | (with_reducible first | exact HB.out | apply below_alloc | apply pw_below_drewN | apply below_drew1 | refine below_set ?_ GE329.out) | exact HB.out)); (case side2 => exact Kd.R_tight rfl HO0_1.out); rintro e w7 ⟨rfl, hy0, hb, hkp⟩; refine ⟨_, rfl, ?_⟩; have n0_ := a_ (Kd.R_reok rfl hy0 (fun k_ e_ => HO0_1.out.1 k_ e_)); have n1_ := a_ (blk_kept (by (with_reducible repeat (first | refine blk_drewN ?_ _ | refine blk_drew ?_ | refine blk_alloc ?_ _)); exact BK329.out) hkp (fun hs_ => (fun e_ => (Kd.R_ne HO0_1.out BK329.out y80_) e_) hs_)); have n2_ := a_ (Kept.then_ (S := (fun k_ => P0_1_ k_)) (by repeat (first | (with_reducible first | exact HK.out | apply Kept.alloc | apply Kept.drewN | apply Kept.drew | refine Kept.setCell ?_ (.inr GW329.out) _) | exact HK.out)) hkp (fun k_ hs_ => (fun e_ => (HO0_1.out.1 k_ e_.symm)) hs_)); have n3_ := a_ (hb); clear HO0_1; clear BK329; clear HK; clear HB; have HO0_1 := n0_; have BK329 := n1_; have HK := n2_; have HB := n3_; clear n0_ n1_ n2_ n3_; (try clear hb); (try clear hkp); (try clear hy0)))
 go_ret
 exact ⟨y5_, by (with_reducible repeat (first | apply Kd.R_alloc | apply Kd.R_drewN | apply Kd.R_drew)); exact HO0_1.out, by repeat (first | (with_reducible first | exact HB.out | apply below_alloc | apply pw_below_drewN | apply below_drew1 | refine below_set ?_ GE329.out) | exact HB.out), by repeat (first | (with_reducible first | exact HK.out | apply Kept.alloc | apply Kept.drewN | apply Kept.drew | refine Kept.setCell ?_ (.inr GW329.out) _) | exact HK.out)⟩

/-! ### laws_heldInt64S: function 50 -/
def laws_heldInt64S.l0 : Nat → List Int → Int → Int → Option (Int)
  | 0, _, _, _ => none
  | k + 1, x0, x1, x5 => if x5 < (x0.length : Int) then (if 0 ≤ x5 then (if (rd x0 x5) = x1 then (laws_heldInt64S.l0 k x0 (wrap64 (x1 + 1)) (wrap64 (x5 + 1))) else (some (-1))) else (none)) else (some x1)
def laws_heldInt64S.f (k : Nat) (l0 : List Int) (a1 : Int) : Option (Int) := laws_heldInt64S.l0 k l0 a1 0
theorem laws_heldInt64S.mono_l : ∀ k, (∀ y0 y1 y2, LeO (laws_heldInt64S.l0 k y0 y1 y2) (laws_heldInt64S.l0 (k + 1) y0 y1 y2))
  | 0 => fun _ _ _ r h => by simp [laws_heldInt64S.l0] at h
  | k + 1 => by
    have ih0 := laws_heldInt64S.mono_l k
    · intro y0 y1 y2
      unfold laws_heldInt64S.l0
      repeat' (with_reducible first | exact ih0 _ _ _ | exact LeO.refl _ | exact LeO.none _ | refine LeO.ite ?_ ?_ | refine LeO.bind ?_ (fun _ => ?_))
theorem laws_heldInt64S.mono : ∀ a0 a1 k, LeO (laws_heldInt64S.f k a0 a1) (laws_heldInt64S.f (k + 1) a0 a1) := by
  intro a0 a1 k
  have ih0 := laws_heldInt64S.mono_l k
  unfold laws_heldInt64S.f
  repeat' (with_reducible first | exact ih0 _ _ _ | exact LeO.refl _ | exact LeO.none _ | refine LeO.ite ?_ ?_ | refine LeO.bind ?_ (fun _ => ?_))
set_option maxHeartbeats 8000000 in
set_option maxRecDepth 100000 in
theorem laws_heldInt64S.calls (k : Nat) (A0 : Option Addr) (c0 : Nat) (l0 : List Int) (a1 : Int) (r : Int) (w : World) (hr0 : Kd.C (Kd.int .i64) w A0 l0.length l0) (hc0 : l0.length ≤ c0) (h : laws_heldInt64S.f k l0 a1 = some r) :
    Calls Try.prog 50 #[.slice A0 l0.length c0, .int .i64 a1] w fun e w' => e = .returned (.int .i64 r) ∧ Drawn0 w w' := by
 have HR0 := a_ hr0; have HC0 := a_ hc0; clear hr0 hc0; have H : (laws_heldInt64S.l0 k l0 a1 0) = some r := h; clear h; have H' := a_ H; clear H; go_enter Try.func50, Try.ntmps50
 go_wp2
 go_loopg [1, 5] k (fun kq v1 v5 w' => ∃ (x1_1 : Int) (x5_1 : Int), v1 = .int .i64 x1_1 ∧ v5 = .int .i64 x5_1 ∧ Aside0 (laws_heldInt64S.l0 kq l0 x1_1 x5_1 = some r) ∧ Aside0 (kq ≤ k) ∧ Drawn0 w w')
 case atStart => exact ⟨(a1), (0), y6_, y6_, H', ⟨Nat.le_refl _⟩, y15_⟩
 case round =>
  clear H'; obtain ⟨x1_1, x5_1, rfl, rfl, HA, HK1, ⟨m1, rfl⟩⟩ := hrel; cases gk with
  | zero => exact absurd HA.out (by simp [laws_heldInt64S.l0])
  | succ k1 =>
   have H := HA.out; clear HA; simp only [laws_heldInt64S.l0] at H; by_cases c3 : x5_1 < (l0.length : Int)
   ·rw [if_pos c3] at H; have c3b0 : decide (x5_1 < (l0.length : Int)) = true := decide_eq_true c3; clear c3; by_cases c4 : 0 ≤ x5_1
    ·rw [if_pos c4] at H; have c4b0 : decide (0 ≤ x5_1) = true := decide_eq_true c4; clear c4; by_cases c5 : (rd l0 x5_1) = x1_1
     ·rw [if_pos c5] at H; have c5b0 : ((rd l0 x5_1) == x1_1) = true := beq_iff_eq.mpr c5; have c5b1 : ((rd l0 x5_1) != x1_1) = false := bne_eq_false_iff_eq.mpr c5; clear c5; have H' := a_ H; clear H; have p332 : 0 ≤ (x5_1 : Int) := of_decide_eq_true y7_; have q332 : x5_1 < (l0.length : Int) := of_decide_eq_true y7_; obtain ⟨ad332, e332, hx332_0⟩ := Kd.at_int HR0.out x5_1 p332 q332; cases e332; replace p332 := eq_true p332; replace q332 := eq_true q332; go_wp2
      go_roundg k1
      case measure => have := HK1.out; omega
      case rel => exact ⟨(wrap64 (x1_1 + 1)), (wrap64 (x5_1 + 1)), y6_, y6_, H', ⟨y91_⟩, y15_⟩
     ·rw [if_neg c5] at H; have c5b0 : ((rd l0 x5_1) == x1_1) = false := beq_eq_false_iff_ne.mpr c5; have c5b1 : ((rd l0 x5_1) != x1_1) = true := bne_iff_ne.mpr c5; obtain rfl := Option.some.inj H; have p332 : 0 ≤ (x5_1 : Int) := of_decide_eq_true y7_; have q332 : x5_1 < (l0.length : Int) := of_decide_eq_true y7_; obtain ⟨ad332, e332, hx332_0⟩ := Kd.at_int HR0.out x5_1 p332 q332; cases e332; replace p332 := eq_true p332; replace q332 := eq_true q332; go_wp2
      go_ret
      exact ⟨y6_, y15_⟩
    ·rw [if_neg c4] at H; exact absurd H y166_
   ·rw [if_neg c3] at H; have c3b0 : decide (x5_1 < (l0.length : Int)) = false := decide_eq_false c3; clear c3; obtain rfl := Option.some.inj H; go_wp2
    go_ret
    exact ⟨y6_, y15_⟩

/-! ### laws_heldIntsResult: function 18 -/
def laws_heldIntsResult.f (k : Nat) (a0_0 : Int) (l0_1 : List Int) (a1 : Int) : Option (Int) := (laws_heldInt64S.f k l0_1 a1).bind fun t334 => (if t334 < 0 then (some (-1)) else (some t334))
theorem laws_heldIntsResult.mono : ∀ a0 a1 a2 k, LeO (laws_heldIntsResult.f k a0 a1 a2) (laws_heldIntsResult.f (k + 1) a0 a1 a2) := by
  intro a0 a1 a2 k
  unfold laws_heldIntsResult.f
  repeat' (with_reducible first | exact laws_heldInt64S.mono _ _ _ | exact LeO.refl _ | exact LeO.none _ | refine LeO.ite ?_ ?_ | refine LeO.bind ?_ (fun _ => ?_))
set_option maxHeartbeats 8000000 in
set_option maxRecDepth 100000 in
theorem laws_heldIntsResult.calls (k : Nat) (a0_0 : Int) (A0_1 : Option Addr) (c0_1 : Nat) (l0_1 : List Int) (a1 : Int) (r : Int) (w : World) (hr0_1 : Kd.C (Kd.int .i64) w A0_1 l0_1.length l0_1) (hc0_1 : l0_1.length ≤ c0_1) (h : laws_heldIntsResult.f k a0_0 l0_1 a1 = some r) :
    Calls Try.prog 18 #[.agg #[.int .i64 a0_0, .slice A0_1 l0_1.length c0_1], .int .i64 a1] w fun e w' => e = .returned (.int .i64 r) ∧ Below w.heap.size w w' := by
 have hu29 := Try.underlying29; have HR0_1 := a_ hr0_1; have HC0_1 := a_ hc0_1; clear hr0_1 hc0_1; have HB := a_ (Below.refl w.heap.size w); have H : ((laws_heldInt64S.f k l0_1 a1).bind fun t334 => (if t334 < 0 then (some (-1)) else (some t334))) = some r := h; clear h; replace H := Option.bind_eq_some_iff.mp H; obtain ⟨tx0, Ay0, H⟩ := H; have Ax0 := a_ Ay0; clear Ay0; by_cases cx1 : tx0 < 0; rw [if_pos cx1] at H; have cx1b0 : decide (tx0 < 0) = true := decide_eq_true cx1; clear cx1; obtain rfl := Option.some.inj H; rotate_left; rw [if_neg cx1] at H; have cx1b0 : decide (tx0 < 0) = false := decide_eq_false cx1; clear cx1; obtain rfl := Option.some.inj H; rotate_left
 all_goals (
  go_enter Try.func18, Try.ntmps18
  go_wp2_with (first | ((with_reducible refine gate_dst (N := 2) rfl ?_); refine box_event zr_ (N := 2) zr_ (cs := #[.int .i64 a0_0, .slice A0_1 l0_1.length c0_1]) (t := 29) zs_ ?_; intro gb9809375 hg w9794801 hbox hb; have n0_ := a_ (below_step y0_ hb); have n1_ := a_ (hbox); have n2_ := a_ ((by rw [hg]; exact (below_size y0_) : w.heap.size ≤ gb9809375)); have n3_ := a_ ((by rw [hg]; exact (below_size y0_) : w.heap.size ≤ gb9809375)); clear HB; have HB := n0_; have BK9809375 := n1_; have GW9809375 := n2_; have GE9809375 := n3_; clear n0_ n1_ n2_ n3_; clear hb hbox hg; have hcz9959365_0 : w9794801.cell? ⟨gb9809375, 0, none⟩ = some (.int .i64 a0_0) := (blk_cell BK9809375.out 0).trans rfl; have hcz9959365_1 : w9794801.cell? ⟨gb9809375, 1, none⟩ = some (.slice A0_1 l0_1.length c0_1) := (blk_cell BK9809375.out 1).trans rfl; have hfz9959365_0 := blk_frozen BK9809375.out 0; have hfz9959365_1 := blk_frozen BK9809375.out 1) | ((with_reducible refine gate_callee (f := 50) rfl ?_); refine gc_ 50 8 Try.func50 #[.slice A0_1 l0_1.length c0_1, .int .i64 a1] ?_; (with_reducible refine (laws_heldInt64S.calls k _ _ l0_1 a1 tx0 _ ?side1 ?side2 Ax0.out).mono ?_); (case side1 => repeat (first | exact (Kd.C_below HR0_1.out HB.out) | (with_reducible refine Kd.C_alloc ?_ _) | (with_reducible refine Kd.C_drewN ?_ _) | (with_reducible refine Kd.C_drew ?_))); (case side2 => exact HC0_1.out); rintro e w' ⟨rfl, ⟨nd, rfl⟩⟩; refine ⟨_, rfl, ?_⟩))
  go_ret
  exact ⟨y5_, y85_⟩)

end Go.Proofs.Ytcpcenhpmcfmjaa.F
