-- Written by a program of this session's own (xp.py) for this seat.
import Derived.Test.YtjbcpghpafacaaaIH
import Derived.Test.YtjbcpghpafacaaaI0
import Derived.Test.YtjbcpghpafacaaaI2
import Derived.Test.YtjbcpghpafacaaaI3
namespace Go.Proofs.Ytjbcpghpafacaaa.I
open Go.RowKit Go.Proofs.YtjbcpghpafacaaaW.PrintWords Go.Proofs.YtjbcpghpafacaaaW.PrintLast Go.Proofs.YtjbcpghpafacaaaW.PrintMore
attribute [local go_sem] Instr.field asAgg
attribute [local go_sem] max2_int min2_int max_two min_two max_three min_three max_four min_four   -- for this text's walks alone
set_option linter.unusedVariables false
set_option linter.unusedSimpArgs false

theorem zi0_ {p : Prop} (h : p := by exact any_of HT_.out (by kernel_rfl)) : p := h
theorem zi1_ {p : Prop} (h : p := by intro w'; go_simp; with_reducible rfl) : p := h
theorem zi2_ {p : Prop} (h : p := by simp only [Act.put, List.setIfInBounds_toArray, List.set_cons_zero, List.set_cons_succ, i64_w, i32_w]; rfl) : p := h
theorem zi3_ {p : Prop} (h : p := by exact take_ofW HT_.out HW_.out (by kernel_rfl)) : p := h
theorem zi4_ {p : Prop} (h : p := by rintro w' ⟨s0, s1, s2, s3, s4, s5, s6, s7, s8, s9, s10, s11⟩; go_simp; with_reducible rfl) : p := h
theorem zi5_ {p : Prop} (h : p := by show Act.put _ (some 25) _ = _; simp only [Act.put, List.setIfInBounds_toArray, List.set_cons_zero, List.set_cons_succ, i64_w, i32_w]; rfl) : p := h
/-! ### laws_eqStepS: function 8 -/
def laws_eqStepS.l0 : Nat → List (S37) → List (S37) → Int → Option (Bool)
  | 0, _, _, _ => none
  | k + 1, x0, x1, x5 => if x5 < (x0.length : Int) then (if 0 ≤ x5 then (if x5 < (x1.length : Int) then ((laws_eqStep.f k ((rd_T37 x0 x5).f0) ((rd_T37 x0 x5).f1) ((rd_T37 x0 x5).f2) ((rd_T37 x0 x5).f3) ((rd_T37 x0 x5).f4) ((rd_T37 x0 x5).f5) ((rd_T37 x1 x5).f0) ((rd_T37 x1 x5).f1) ((rd_T37 x1 x5).f2) ((rd_T37 x1 x5).f3) ((rd_T37 x1 x5).f4) ((rd_T37 x1 x5).f5)).bind fun t579 => (if t579 = true then (laws_eqStepS.l0 k x0 x1 (wrap64 (x5 + 1))) else (some false))) else (none)) else (none)) else (some true)
def laws_eqStepS.f (k : Nat) (l0 : List (S37)) (l1 : List (S37)) : Option (Bool) := if (l0.length : Int) = (l1.length : Int) then (laws_eqStepS.l0 k l0 l1 0) else (some false)
theorem laws_eqStepS.mono_l : ∀ k, (∀ y0 y1 y2, LeO (laws_eqStepS.l0 k y0 y1 y2) (laws_eqStepS.l0 (k + 1) y0 y1 y2))
  | 0 => fun _ _ _ r h => by simp [laws_eqStepS.l0] at h
  | k + 1 => by
    have ih0 := laws_eqStepS.mono_l k
    · intro y0 y1 y2
      unfold laws_eqStepS.l0
      repeat' first
      | (with_reducible exact ih0 _ _ _)
      | (with_reducible exact laws_eqStep.mono _ _ _ _ _ _ _ _ _ _ _ _ _)
      | (with_reducible exact LeO.refl _)
      | (with_reducible exact LeO.none _)
      | (with_reducible refine LeO.ite ?_ ?_)
      | (with_reducible refine LeO.bind ?_ (fun _ => ?_))
      | exact ih0 _ _ _
      | exact laws_eqStep.mono _ _ _ _ _ _ _ _ _ _ _ _ _
      | exact LeO.none _
      | refine LeO.ite ?_ ?_
      | refine LeO.bind ?_ (fun _ => ?_)
theorem laws_eqStepS.mono : ∀ a0 a1 k, LeO (laws_eqStepS.f k a0 a1) (laws_eqStepS.f (k + 1) a0 a1) := by
  intro a0 a1 k
  have ih0 := laws_eqStepS.mono_l k
  unfold laws_eqStepS.f
  repeat' first
      | (with_reducible exact ih0 _ _ _)
      | (with_reducible exact laws_eqStep.mono _ _ _ _ _ _ _ _ _ _ _ _ _)
      | (with_reducible exact LeO.refl _)
      | (with_reducible exact LeO.none _)
      | (with_reducible refine LeO.ite ?_ ?_)
      | (with_reducible refine LeO.bind ?_ (fun _ => ?_))
      | exact ih0 _ _ _
      | exact laws_eqStep.mono _ _ _ _ _ _ _ _ _ _ _ _ _
      | exact LeO.none _
      | refine LeO.ite ?_ ?_
      | refine LeO.bind ?_ (fun _ => ?_)
def laws_eqStepS.T6 : Bool × List (List Nat × List Nat) := (true, [([], []), ([], []), ([0, 1], [0, 1]), ([2], [2]), ([], []), ([], []), ([4, 5], [4, 5]), ([6], [6]), ([3, 7], [3, 7]), ([8], [8])])
def laws_eqStepS.B6 : List Nat := [0, 0, 3, 7, 0, 0, 48, 112, 255, 511]
theorem laws_eqStepS.tab6 : rtab .any (opsOf Try.f8 6) = laws_eqStepS.T6 := by kernel_rfl
theorem laws_eqStepS.bits6 : waitsOk laws_eqStepS.T6.2 laws_eqStepS.B6 = true := by kernel_rfl
set_option maxHeartbeats 8000000 in
set_option maxRecDepth 100000 in
theorem laws_eqStepS.calls (k : Nat) (A0 : Option Addr) (c0 : Nat) (l0 : List (S37)) (A1 : Option Addr) (c1 : Nat) (l1 : List (S37)) (r : Bool) (w : World) (hr0 : Kd.C k37 w A0 l0.length l0) (hc0 : l0.length ≤ c0) (hr1 : Kd.C k37 w A1 l1.length l1) (hc1 : l1.length ≤ c1) (h : laws_eqStepS.f k l0 l1 = some r) :
    Calls Try.prog 8 #[.slice A0 l0.length c0, .slice A1 l1.length c1] w fun e w' => e = .returned (.bool r) ∧ Below w.heap.size w w' := by
  have hu37 := Try.underlying37
  have HR0 := Aside0.mk hr0
  have HC0 := Aside0.mk hc0
  clear hr0 hc0
  have HR1 := Aside0.mk hr1
  have HC1 := Aside0.mk hc1
  clear hr1 hc1
  have HB := Aside0.mk (Below.refl w.heap.size w)
  have H : (if (l0.length : Int) = (l1.length : Int) then (laws_eqStepS.l0 k l0 l1 0) else (some false)) = some r := h
  clear h
  by_cases cx0 : (l0.length : Int) = (l1.length : Int)
  · rw [if_pos cx0] at H
    have cx0b0 : ((l0.length : Int) == (l1.length : Int)) = true := beq_iff_eq.mpr cx0
    have cx0b1 : ((l0.length : Int) != (l1.length : Int)) = false := bne_eq_false_iff_eq.mpr cx0
    have cx0b2 : (l0.length == l1.length) = true := by first | simpa using cx0 | (simp at cx0 ⊢; omega)
    clear cx0
    have H' := Aside0.mk H
    clear H
    go_enter Try.func8, Try.ntmps8
    go_wp2
    go_loopg [5] k (fun kq v5 w' => ∃ (x5_1 : Int), v5 = .int .i64 x5_1 ∧ Aside0 (laws_eqStepS.l0 kq l0 l1 x5_1 = some r) ∧ Aside0 (kq ≤ k) ∧ Aside0 (Below w.heap.size w w'))
    case atStart => exact ⟨(0), (by first | rfl | (simp; done) | (simp [*]; done)), H', ⟨Nat.le_refl _⟩, ⟨by repeat (first | (with_reducible first | exact HB.out | apply below_alloc | apply pw_below_drewN | apply below_drew1) | exact HB.out)⟩⟩
    case round =>
      clear H'
      try clear c1
      try clear p2
      try clear cx0
      try clear cx0b0
      try clear cx0b1
      try clear cx0b2
      obtain ⟨x5_1, rfl, HA, HK1, HB⟩ := hrel
      cases gk with
      | zero => exact absurd HA.out (by simp [laws_eqStepS.l0])
      | succ k1 =>
        have H := HA.out
        clear HA
        simp only [laws_eqStepS.l0] at H
        by_cases cx1 : x5_1 < (l0.length : Int)
        rw [if_pos cx1] at H
        have cx1b0 : decide (x5_1 < (l0.length : Int)) = true := decide_eq_true cx1
        clear cx1
        by_cases cx2 : 0 ≤ x5_1
        rw [if_pos cx2] at H
        have cx2b0 : decide (0 ≤ x5_1) = true := decide_eq_true cx2
        clear cx2
        by_cases cx3 : x5_1 < (l1.length : Int)
        rw [if_pos cx3] at H
        have cx3b0 : decide (x5_1 < (l1.length : Int)) = true := decide_eq_true cx3
        clear cx3
        replace H := Option.bind_eq_some_iff.mp H
        obtain ⟨tx4, Ay4, H⟩ := H
        have Ax4 := Aside0.mk Ay4
        clear Ay4
        by_cases cx5 : tx4 = true
        subst cx5
        rw [if_pos rfl] at H
        have H' := Aside0.mk H
        clear H
        have mk1_0 := True.intro
        have mk1_1 := True.intro
        rotate_left
        replace cx5 := Bool.eq_false_iff.mpr cx5
        subst cx5
        rw [if_neg (show ¬ (false = true) by decide)] at H
        obtain rfl := Option.some.inj H
        have mk1_0 := True.intro
        have mk1_2 := True.intro
        rotate_left
        · rw [if_neg cx3] at H
          exact absurd H (by simp)
        · rw [if_neg cx2] at H
          exact absurd H (by simp)
        rw [if_neg cx1] at H
        have cx1b0 : decide (x5_1 < (l0.length : Int)) = false := decide_eq_false cx1
        clear cx1
        obtain rfl := Option.some.inj H
        have mk1_3 := True.intro
        rotate_left
        all_goals (
         first
         | fail_if_success clear mk1_0
         | (clear mk1_0
            try go_wp2
            have n0_ := Aside0.mk (below_drew1 HB.out)
            clear HB
            have HB := n0_
            clear n0_
            have p9922068 : 0 ≤ (x5_1 : Int) := of_decide_eq_true (by first | (with_reducible assumption) | assumption)
            have q9922068 : x5_1 < (l0.length : Int) := of_decide_eq_true (by first | (with_reducible assumption) | assumption)
            have BD577 := Aside0.mk (And.intro p9922068 q9922068)
            obtain ⟨ad9922068, A577_4, c577_4, A577_5, c577_5, e9922068, hx9922068_0, hx9922068_1, hx9922068_2, hx9922068_3, hx9922068_4, hx9922068_5, hl9922068_4, hi577_4, hl9922068_5, hi577_5⟩ := at_T37 HR0.out x5_1 p9922068 q9922068
            have hw9922068_5 := hx9922068_5
            have hw9922068_4 := hx9922068_4
            have hw9922068_3 := hx9922068_3
            have hw9922068_2 := hx9922068_2
            have hw9922068_1 := hx9922068_1
            have hw9922068_0 := hx9922068_0
            cases e9922068
            replace hx9922068_0 := (HB.out.cell (World.block_lt_of_cell? w _ hx9922068_0)).trans hx9922068_0
            replace hx9922068_1 := (HB.out.cell (World.block_lt_of_cell? w _ hx9922068_1)).trans hx9922068_1
            replace hx9922068_2 := (HB.out.cell (World.block_lt_of_cell? w _ hx9922068_2)).trans hx9922068_2
            replace hx9922068_3 := (HB.out.cell (World.block_lt_of_cell? w _ hx9922068_3)).trans hx9922068_3
            replace hx9922068_4 := (HB.out.cell (World.block_lt_of_cell? w _ hx9922068_4)).trans hx9922068_4
            replace hx9922068_5 := (HB.out.cell (World.block_lt_of_cell? w _ hx9922068_5)).trans hx9922068_5
            have HR577_4 := Aside0.mk hi577_4
            have HC577_4 := Aside0.mk hl9922068_4
            clear hi577_4 hl9922068_4
            have HR577_5 := Aside0.mk hi577_5
            have HC577_5 := Aside0.mk hl9922068_5
            clear hi577_5 hl9922068_5
            replace p9922068 := eq_true p9922068
            replace q9922068 := eq_true q9922068
            have p9548309 : 0 ≤ (x5_1 : Int) := of_decide_eq_true (by first | (with_reducible assumption) | assumption)
            have q9548309 : x5_1 < (l1.length : Int) := of_decide_eq_true (by first | (with_reducible assumption) | assumption)
            have BD578 := Aside0.mk (And.intro p9548309 q9548309)
            obtain ⟨ad9548309, A578_4, c578_4, A578_5, c578_5, e9548309, hx9548309_0, hx9548309_1, hx9548309_2, hx9548309_3, hx9548309_4, hx9548309_5, hl9548309_4, hi578_4, hl9548309_5, hi578_5⟩ := at_T37 HR1.out x5_1 p9548309 q9548309
            have hw9548309_5 := hx9548309_5
            have hw9548309_4 := hx9548309_4
            have hw9548309_3 := hx9548309_3
            have hw9548309_2 := hx9548309_2
            have hw9548309_1 := hx9548309_1
            have hw9548309_0 := hx9548309_0
            cases e9548309
            replace hx9548309_0 := (HB.out.cell (World.block_lt_of_cell? w _ hx9548309_0)).trans hx9548309_0
            replace hx9548309_1 := (HB.out.cell (World.block_lt_of_cell? w _ hx9548309_1)).trans hx9548309_1
            replace hx9548309_2 := (HB.out.cell (World.block_lt_of_cell? w _ hx9548309_2)).trans hx9548309_2
            replace hx9548309_3 := (HB.out.cell (World.block_lt_of_cell? w _ hx9548309_3)).trans hx9548309_3
            replace hx9548309_4 := (HB.out.cell (World.block_lt_of_cell? w _ hx9548309_4)).trans hx9548309_4
            replace hx9548309_5 := (HB.out.cell (World.block_lt_of_cell? w _ hx9548309_5)).trans hx9548309_5
            have HR578_4 := Aside0.mk hi578_4
            have HC578_4 := Aside0.mk hl9548309_4
            clear hi578_4 hl9548309_4
            have HR578_5 := Aside0.mk hi578_5
            have HC578_5 := Aside0.mk hl9548309_5
            clear hi578_5 hl9548309_5
            replace p9548309 := eq_true p9548309
            replace q9548309 := eq_true q9548309
            refine start_ (n := 10) (S := fun w' => w'.cell? (ad9922068.add ((x5_1).toNat * 6)) = some (.int .i64 ((rd_T37 l0 x5_1).f0)) ∧ w'.cell? ⟨(ad9922068.add ((x5_1).toNat * 6)).block, (ad9922068.add ((x5_1).toNat * 6)).off + 1, none⟩ = some (.int .i64 ((rd_T37 l0 x5_1).f1)) ∧ w'.cell? ⟨(ad9922068.add ((x5_1).toNat * 6)).block, (ad9922068.add ((x5_1).toNat * 6)).off + 2, none⟩ = some (.string ((rd_T37 l0 x5_1).f2)) ∧ w'.cell? ⟨(ad9922068.add ((x5_1).toNat * 6)).block, (ad9922068.add ((x5_1).toNat * 6)).off + 3, none⟩ = some (.int .i64 ((rd_T37 l0 x5_1).f3)) ∧ w'.cell? ⟨(ad9922068.add ((x5_1).toNat * 6)).block, (ad9922068.add ((x5_1).toNat * 6)).off + 4, none⟩ = some (.slice A577_4 ((rd_T37 l0 x5_1).f4).length c577_4) ∧ w'.cell? ⟨(ad9922068.add ((x5_1).toNat * 6)).block, (ad9922068.add ((x5_1).toNat * 6)).off + 5, none⟩ = some (.slice A577_5 ((rd_T37 l0 x5_1).f5).length c577_5) ∧ w'.cell? (ad9548309.add ((x5_1).toNat * 6)) = some (.int .i64 ((rd_T37 l1 x5_1).f0)) ∧ w'.cell? ⟨(ad9548309.add ((x5_1).toNat * 6)).block, (ad9548309.add ((x5_1).toNat * 6)).off + 1, none⟩ = some (.int .i64 ((rd_T37 l1 x5_1).f1)) ∧ w'.cell? ⟨(ad9548309.add ((x5_1).toNat * 6)).block, (ad9548309.add ((x5_1).toNat * 6)).off + 2, none⟩ = some (.string ((rd_T37 l1 x5_1).f2)) ∧ w'.cell? ⟨(ad9548309.add ((x5_1).toNat * 6)).block, (ad9548309.add ((x5_1).toNat * 6)).off + 3, none⟩ = some (.int .i64 ((rd_T37 l1 x5_1).f3)) ∧ w'.cell? ⟨(ad9548309.add ((x5_1).toNat * 6)).block, (ad9548309.add ((x5_1).toNat * 6)).off + 4, none⟩ = some (.slice A578_4 ((rd_T37 l1 x5_1).f4).length c578_4) ∧ w'.cell? ⟨(ad9548309.add ((x5_1).toNat * 6)).block, (ad9548309.add ((x5_1).toNat * 6)).off + 5, none⟩ = some (.slice A578_5 ((rd_T37 l1 x5_1).f5).length c578_5)) (ds := []) #[false, false, false, false, false, false, false, false, false, false] (by kernel_rfl) rfl rfl ⟨((HB.out.cell (World.block_lt_of_cell? w _ hw9922068_0)).trans hw9922068_0), ((HB.out.cell (World.block_lt_of_cell? w _ hw9922068_1)).trans hw9922068_1), ((HB.out.cell (World.block_lt_of_cell? w _ hw9922068_2)).trans hw9922068_2), ((HB.out.cell (World.block_lt_of_cell? w _ hw9922068_3)).trans hw9922068_3), ((HB.out.cell (World.block_lt_of_cell? w _ hw9922068_4)).trans hw9922068_4), ((HB.out.cell (World.block_lt_of_cell? w _ hw9922068_5)).trans hw9922068_5), ((HB.out.cell (World.block_lt_of_cell? w _ hw9548309_0)).trans hw9548309_0), ((HB.out.cell (World.block_lt_of_cell? w _ hw9548309_1)).trans hw9548309_1), ((HB.out.cell (World.block_lt_of_cell? w _ hw9548309_2)).trans hw9548309_2), ((HB.out.cell (World.block_lt_of_cell? w _ hw9548309_3)).trans hw9548309_3), ((HB.out.cell (World.block_lt_of_cell? w _ hw9548309_4)).trans hw9548309_4), ((HB.out.cell (World.block_lt_of_cell? w _ hw9548309_5)).trans hw9548309_5)⟩ (fun hHeld => ?_); refine with_tabW laws_eqStepS.tab6 laws_eqStepS.bits6 (fun HT_ HW_ => ?_)
            generalize wr.drew = w9497698 at HB HR577_4 HR577_5 HR578_4 HR578_5 hx9922068_0 hx9922068_1 hx9922068_2 hx9922068_3 hx9922068_4 hx9922068_5 hx9548309_0 hx9548309_1 hx9548309_2 hx9548309_3 hx9548309_4 hx9548309_5 hHeld ⊢
            refine pure_ (i := 0) (N := some 17) #[true, false, false, false, false, false, false, false, false, false] rfl rfl zi0_ (fun _ _ _ h => h) (Or.inl ⟨rfl, zi1_⟩) zi2_ ?_
            refine pure_ (i := 1) (N := some 18) #[true, true, false, false, false, false, false, false, false, false] rfl rfl zi0_ (fun _ _ _ h => h) (Or.inl ⟨rfl, zi1_⟩) zi2_ ?_
            refine pure_ (i := 2) (N := some 19) #[true, true, true, false, false, false, false, false, false, false] rfl rfl zi0_ (fun _ _ _ h => h) (Or.inl ⟨rfl, zi1_⟩) zi2_ ?_
            refine pure_ (i := 4) (N := some 21) #[true, true, true, false, true, false, false, false, false, false] rfl rfl zi0_ (fun _ _ _ h => h) (Or.inl ⟨rfl, zi1_⟩) zi2_ ?_
            refine pure_ (i := 5) (N := some 22) #[true, true, true, false, true, true, false, false, false, false] rfl rfl zi0_ (fun _ _ _ h => h) (Or.inl ⟨rfl, zi1_⟩) zi2_ ?_
            refine pure_ (i := 6) (N := some 23) #[true, true, true, false, true, true, true, false, false, false] rfl rfl zi0_ (fun _ _ _ h => h) (Or.inl ⟨rfl, zi1_⟩) zi2_ ?_
            refine take_ (i := 3) (N := some 20) #[true, true, true, true, true, true, true, false, false, false] rfl rfl zi3_ (fun _ _ _ h => h) (Or.inl ⟨rfl, zi4_⟩) hHeld zi2_ ?_
            refine take_ (i := 7) (N := some 24) #[true, true, true, true, true, true, true, true, false, false] rfl rfl zi3_ (fun _ _ _ h => h) (Or.inl ⟨rfl, zi4_⟩) hHeld zi2_ ?_
            refine one_ (i := 8) (N := some 25) #[true, true, true, true, true, true, true, true, true, false] rfl rfl (one_of HT_.out (by kernel_rfl)) (by decide) (fun K hK => ?_)
            refine goes_ Try.func18 (by kernel_rfl) rfl #[.agg #[.int .i64 ((rd_T37 l0 x5_1).f0), .int .i64 ((rd_T37 l0 x5_1).f1), .string ((rd_T37 l0 x5_1).f2), .int .i64 ((rd_T37 l0 x5_1).f3), .slice A577_4 ((rd_T37 l0 x5_1).f4).length c577_4, .slice A577_5 ((rd_T37 l0 x5_1).f5).length c577_5], .agg #[.int .i64 ((rd_T37 l1 x5_1).f0), .int .i64 ((rd_T37 l1 x5_1).f1), .string ((rd_T37 l1 x5_1).f2), .int .i64 ((rd_T37 l1 x5_1).f3), .slice A578_4 ((rd_T37 l1 x5_1).f4).length c578_4, .slice A578_5 ((rd_T37 l1 x5_1).f5).length c578_5]] (by rfl) rfl rfl (by (try simp only [List.map_toArray, List.map_cons, List.map_nil]); first | done | rfl | (simp only [List.length_drop, List.length_take]; rfl)) ?_
            with_reducible refine (laws_eqStep.calls k1 ((rd_T37 l0 x5_1).f0) ((rd_T37 l0 x5_1).f1) ((rd_T37 l0 x5_1).f2) ((rd_T37 l0 x5_1).f3) _ _ ((rd_T37 l0 x5_1).f4) _ _ ((rd_T37 l0 x5_1).f5) ((rd_T37 l1 x5_1).f0) ((rd_T37 l1 x5_1).f1) ((rd_T37 l1 x5_1).f2) ((rd_T37 l1 x5_1).f3) _ _ ((rd_T37 l1 x5_1).f4) _ _ ((rd_T37 l1 x5_1).f5) _ _ ?side1 ?side2 ?side3 ?side4 ?side5 ?side6 ?side7 ?side8 Ax4.out).mono ?_
            (case side1 => repeat (first | exact (Kd.C_below HR577_4.out HB.out) | (with_reducible refine Kd.C_alloc ?_ _) | (with_reducible refine Kd.C_drewN ?_ _) | (with_reducible refine Kd.C_drew ?_)))
            (case side2 => exact HC577_4.out)
            (case side3 => repeat (first | exact (Kd.C_below HR577_5.out HB.out) | (with_reducible refine Kd.C_alloc ?_ _) | (with_reducible refine Kd.C_drewN ?_ _) | (with_reducible refine Kd.C_drew ?_)))
            (case side4 => exact HC577_5.out)
            (case side5 => repeat (first | exact (Kd.C_below HR578_4.out HB.out) | (with_reducible refine Kd.C_alloc ?_ _) | (with_reducible refine Kd.C_drewN ?_ _) | (with_reducible refine Kd.C_drew ?_)))
            (case side6 => exact HC578_4.out)
            (case side7 => repeat (first | exact (Kd.C_below HR578_5.out HB.out) | (with_reducible refine Kd.C_alloc ?_ _) | (with_reducible refine Kd.C_drewN ?_ _) | (with_reducible refine Kd.C_drew ?_)))
            (case side8 => exact HC578_5.out)
            rintro e w9985327 ⟨rfl, hb⟩
            refine ⟨_, rfl, ?_⟩
            have n0_ := Aside0.mk (below_step (by repeat (first | (with_reducible first | exact HB.out | apply below_alloc | apply pw_below_drewN | apply below_drew1) | exact HB.out)) hb)
            clear HB
            have HB := n0_
            clear n0_
            (try clear hb)
            (try clear hb9800335)
            (try clear hk)
            (try clear hi)
            refine hK.out _ _ ⟨((HB.out.cell (World.block_lt_of_cell? w _ hw9922068_0)).trans hw9922068_0), ((HB.out.cell (World.block_lt_of_cell? w _ hw9922068_1)).trans hw9922068_1), ((HB.out.cell (World.block_lt_of_cell? w _ hw9922068_2)).trans hw9922068_2), ((HB.out.cell (World.block_lt_of_cell? w _ hw9922068_3)).trans hw9922068_3), ((HB.out.cell (World.block_lt_of_cell? w _ hw9922068_4)).trans hw9922068_4), ((HB.out.cell (World.block_lt_of_cell? w _ hw9922068_5)).trans hw9922068_5), ((HB.out.cell (World.block_lt_of_cell? w _ hw9548309_0)).trans hw9548309_0), ((HB.out.cell (World.block_lt_of_cell? w _ hw9548309_1)).trans hw9548309_1), ((HB.out.cell (World.block_lt_of_cell? w _ hw9548309_2)).trans hw9548309_2), ((HB.out.cell (World.block_lt_of_cell? w _ hw9548309_3)).trans hw9548309_3), ((HB.out.cell (World.block_lt_of_cell? w _ hw9548309_4)).trans hw9548309_4), ((HB.out.cell (World.block_lt_of_cell? w _ hw9548309_5)).trans hw9548309_5)⟩ (fun hHeld => ?_)
            clear hK K
            refine norm_ zi5_ ?_
            refine pure_ (i := 9) (N := some 26) #[true, true, true, true, true, true, true, true, true, true] rfl rfl zi0_ (fun _ _ _ h => h) (Or.inl ⟨rfl, zi1_⟩) zi2_ ?_
            refine done_ (done_of HT_.out (by kernel_rfl)) ?_
            try go_wp2)
         first
         | fail_if_success clear mk1_1
         | (clear mk1_1
            go_roundg k1
            case measure => have := HK1.out; omega
            case rel => exact ⟨(wrap64 (x5_1 + 1)), (by first | rfl | (simp; done) | (simp [*]; done)), H', ⟨by have := HK1.out; omega⟩, ⟨by repeat (first | (with_reducible first | exact HB.out | apply below_alloc | apply pw_below_drewN | apply below_drew1) | exact HB.out)⟩⟩)
         first
         | fail_if_success clear mk1_2
         | (clear mk1_2
            go_ret
            exact ⟨by first | rfl | (simp [errW_none, errW_some] <;> rfl) | (simp [*, errW_none, errW_some] <;> rfl), by repeat (first | (with_reducible first | exact HB.out | apply below_alloc | apply pw_below_drewN | apply below_drew1) | exact HB.out)⟩)
         first
         | fail_if_success clear mk1_3
         | (clear mk1_3
            go_wp2
            go_ret
            exact ⟨by first | rfl | (simp [errW_none, errW_some] <;> rfl) | (simp [*, errW_none, errW_some] <;> rfl), by repeat (first | (with_reducible first | exact HB.out | apply below_alloc | apply pw_below_drewN | apply below_drew1) | exact HB.out)⟩))
  · rw [if_neg cx0] at H
    have cx0b0 : ((l0.length : Int) == (l1.length : Int)) = false := beq_eq_false_iff_ne.mpr cx0
    have cx0b1 : ((l0.length : Int) != (l1.length : Int)) = true := bne_iff_ne.mpr cx0
    have cx0b2 : (l0.length == l1.length) = false := by first | simpa using cx0 | (simp at cx0 ⊢; omega)
    obtain rfl := Option.some.inj H
    go_enter Try.func8, Try.ntmps8
    go_wp2
    go_ret
    exact ⟨by first | rfl | (simp [errW_none, errW_some] <;> rfl) | (simp [*, errW_none, errW_some] <;> rfl), by repeat (first | (with_reducible first | exact HB.out | apply below_alloc | apply pw_below_drewN | apply below_drew1) | exact HB.out)⟩

/-! ### laws_FnExactIsPlain: function 3 -/
def laws_FnExactIsPlain.f (k : Nat) (l0 : List (S32)) : Option (Bool) := (laws_szStepS.f k l0 1048576).bind fun t580 => (if t580 < 0 then (some true) else ((laws_toStepS.f k l0).bind fun t581 => ((spec_IsPlain.f k t581).bind fun t584 => ((laws_toStepS.f k l0).bind fun t585 => ((impl_IsPlain.f k t585).bind fun t588 => (if (t588 != t584) = true then (some false) else ((laws_toStepS.f k l0).bind fun t589 => ((laws_eqStepS.f k t585 t589).bind fun t592 => (if t592 = true then (some true) else (some false))))))))))
theorem laws_FnExactIsPlain.mono : ∀ a0 k, LeO (laws_FnExactIsPlain.f k a0) (laws_FnExactIsPlain.f (k + 1) a0) := by
  intro a0 k
  unfold laws_FnExactIsPlain.f
  repeat' first
      | (with_reducible exact impl_IsPlain.mono _ _)
      | (with_reducible exact laws_eqStepS.mono _ _ _)
      | (with_reducible exact laws_szStepS.mono _ _ _)
      | (with_reducible exact laws_toStepS.mono _ _)
      | (with_reducible exact spec_IsPlain.mono _ _)
      | (with_reducible exact LeO.refl _)
      | (with_reducible exact LeO.none _)
      | (with_reducible refine LeO.ite ?_ ?_)
      | (with_reducible refine LeO.bind ?_ (fun _ => ?_))
      | exact impl_IsPlain.mono _ _
      | exact laws_eqStepS.mono _ _ _
      | exact laws_szStepS.mono _ _ _
      | exact laws_toStepS.mono _ _
      | exact spec_IsPlain.mono _ _
      | exact LeO.none _
      | refine LeO.ite ?_ ?_
      | refine LeO.bind ?_ (fun _ => ?_)
set_option maxHeartbeats 8000000 in
set_option maxRecDepth 100000 in
theorem laws_FnExactIsPlain.calls (k : Nat) (A0 : Option Addr) (c0 : Nat) (l0 : List (S32)) (r : Bool) (w : World) (hr0 : Kd.C k32 w A0 l0.length l0) (hc0 : l0.length ≤ c0) (h : laws_FnExactIsPlain.f k l0 = some r) :
    Calls Try.prog 3 #[.slice A0 l0.length c0] w fun e w' => e = .returned (.bool r) ∧ Below w.heap.size w w' := by
  have HR0 := Aside0.mk hr0
  have HC0 := Aside0.mk hc0
  clear hr0 hc0
  have HB := Aside0.mk (Below.refl w.heap.size w)
  have H : ((laws_szStepS.f k l0 1048576).bind fun t580 => (if t580 < 0 then (some true) else ((laws_toStepS.f k l0).bind fun t581 => ((spec_IsPlain.f k t581).bind fun t584 => ((laws_toStepS.f k l0).bind fun t585 => ((impl_IsPlain.f k t585).bind fun t588 => (if (t588 != t584) = true then (some false) else ((laws_toStepS.f k l0).bind fun t589 => ((laws_eqStepS.f k t585 t589).bind fun t592 => (if t592 = true then (some true) else (some false))))))))))) = some r := h
  clear h
  replace H := Option.bind_eq_some_iff.mp H
  obtain ⟨tx0, Ay0, H⟩ := H
  have Ax0 := Aside0.mk Ay0
  clear Ay0
  by_cases cx1 : tx0 < 0
  rw [if_pos cx1] at H
  have cx1b0 : decide (tx0 < 0) = true := decide_eq_true cx1
  clear cx1
  obtain rfl := Option.some.inj H
  rotate_left
  rw [if_neg cx1] at H
  have cx1b0 : decide (tx0 < 0) = false := decide_eq_false cx1
  clear cx1
  replace H := Option.bind_eq_some_iff.mp H
  obtain ⟨tx2, Ay2, H⟩ := H
  have Ax2 := Aside0.mk Ay2
  clear Ay2
  replace H := Option.bind_eq_some_iff.mp H
  obtain ⟨tx3, Ay3, H⟩ := H
  have Ax3 := Aside0.mk Ay3
  clear Ay3
  replace H := Option.bind_eq_some_iff.mp H
  obtain ⟨tx4, Ay4, H⟩ := H
  have Ax4 := Aside0.mk Ay4
  clear Ay4
  replace H := Option.bind_eq_some_iff.mp H
  obtain ⟨tx5, Ay5, H⟩ := H
  have Ax5 := Aside0.mk Ay5
  clear Ay5
  by_cases cx6 : (tx5 != tx3) = true
  rw [if_pos cx6] at H
  have cx6b0 : (tx5 != tx3) = true := cx6
  (try (have cx6b1 : decide (tx5 = tx3) = false := by simpa using cx6))
  (try (have cx6b2 : (tx5 == tx3) = false := by simpa using cx6))
  (try (have cx6b3 : ¬ (tx5 = tx3) := by simpa using cx6))
  clear cx6
  obtain rfl := Option.some.inj H
  have mk0_0 := True.intro
  have mk0_1 := True.intro
  rotate_left
  rw [if_neg cx6] at H
  have cx6b0 : (tx5 != tx3) = false := by simpa using cx6
  (try (have cx6b1 : decide (tx5 = tx3) = true := by simpa using cx6))
  (try (have cx6b2 : (tx5 == tx3) = true := by simpa using cx6))
  clear cx6
  replace H := Option.bind_eq_some_iff.mp H
  obtain ⟨tx7, Ay7, H⟩ := H
  have Ax7 := Aside0.mk Ay7
  clear Ay7
  replace H := Option.bind_eq_some_iff.mp H
  obtain ⟨tx8, Ay8, H⟩ := H
  have Ax8 := Aside0.mk Ay8
  clear Ay8
  by_cases cx9 : tx8 = true
  subst cx9
  rw [if_pos rfl] at H
  obtain rfl := Option.some.inj H
  have mk0_0 := True.intro
  have mk0_1 := True.intro
  have mk0_2 := True.intro
  rotate_left
  replace cx9 := Bool.eq_false_iff.mpr cx9
  subst cx9
  rw [if_neg (show ¬ (false = true) by decide)] at H
  obtain rfl := Option.some.inj H
  have mk0_0 := True.intro
  have mk0_1 := True.intro
  have mk0_2 := True.intro
  rotate_left
  all_goals (
   go_enter Try.func3, Try.ntmps3
   go_wp2_with (first | ((with_reducible refine gate_callee (f := 4) rfl ?_); refine goesL_ (some 9) rfl rfl Try.func4 (by kernel_rfl) rfl #[.slice A0 l0.length c0, .int .i64 1048576] rfl (by (try simp only [List.map_toArray, List.map_cons, List.map_nil]); first | done | rfl | (simp only [List.length_drop, List.length_take]; rfl) | (go_simp; done) | (simp [Act.eval, bne]; done)) ?_; (with_reducible refine (laws_szStepS.calls k _ _ l0 1048576 tx0 _ ?side1 ?side2 Ax0.out).mono ?_); (case side1 => repeat (first | exact HR0.out | (with_reducible refine Kd.C_alloc ?_ _) | (with_reducible refine Kd.C_drewN ?_ _) | (with_reducible refine Kd.C_drew ?_))); (case side2 => exact HC0.out); rintro e w9936880 ⟨rfl, hb⟩; refine ⟨_, rfl, ?_⟩; have n0_ := Aside0.mk (below_step (by repeat (first | (with_reducible first | exact HB.out | apply below_alloc | apply pw_below_drewN | apply below_drew1) | exact HB.out)) hb); clear HB; have HB := n0_; clear n0_; (try clear hb); (try clear hb9491778); (try clear hk); (try clear hi)) | (have mkq_ := mk0_0; clear mkq_; (with_reducible refine gate_callee (f := 6) rfl ?_); refine goesL_ (some 13) rfl rfl Try.func6 (by kernel_rfl) rfl #[.slice A0 l0.length c0] rfl (by (try simp only [List.map_toArray, List.map_cons, List.map_nil]); first | done | rfl | (simp only [List.length_drop, List.length_take]; rfl) | (go_simp; done) | (simp [Act.eval, bne]; done)) ?_; (with_reducible refine (laws_toStepS.calls k _ _ l0 tx2 _ ?side1 ?side2 Ax2.out).mono ?_); (case side1 => repeat (first | exact (Kd.C_below HR0.out HB.out) | (with_reducible refine Kd.C_alloc ?_ _) | (with_reducible refine Kd.C_drewN ?_ _) | (with_reducible refine Kd.C_drew ?_))); (case side2 => exact HC0.out); rintro e w9882518 ⟨v9775242, rfl, ho0, hb⟩; refine ⟨_, rfl, ?_⟩; have n0_ := Aside0.mk (Kd.S_lower ho0 (below_size (by repeat (first | (with_reducible first | exact HB.out | apply below_alloc | apply pw_below_drewN | apply below_drew1) | exact HB.out)))); have n1_ := Aside0.mk (below_step (by repeat (first | (with_reducible first | exact HB.out | apply below_alloc | apply pw_below_drewN | apply below_drew1) | exact HB.out)) hb); clear HB; have HO9375970 := n0_; have HB := n1_; clear n0_ n1_; (try clear hb); (try clear hb9491778); (try clear hk); (try clear hi); (try clear ho0); obtain ⟨Ao9107898, co9107898, eo9107898⟩ := Kd.S_slice HO9375970.out; subst eo9107898) | ((with_reducible refine gate_callee (f := 5) rfl ?_); refine goesL_ (some 14) rfl rfl Try.func5 (by kernel_rfl) rfl #[.slice Ao9107898 tx2.length co9107898] rfl (by (try simp only [List.map_toArray, List.map_cons, List.map_nil]); first | done | rfl | (simp only [List.length_drop, List.length_take]; rfl) | (go_simp; done) | (simp [Act.eval, bne]; done)) ?_; (with_reducible refine (spec_IsPlain.calls k _ _ tx2 tx3 _ ?side1 ?side2 Ax3.out).mono ?_); (case side1 => repeat (first | exact (Kd.S_reads' HO9375970.out).2.2 | (with_reducible refine Kd.C_alloc ?_ _) | (with_reducible refine Kd.C_drewN ?_ _) | (with_reducible refine Kd.C_drew ?_))); (case side2 => exact (Kd.S_reads' HO9375970.out).2.1); rintro e w9278162 ⟨rfl, hb⟩; refine ⟨_, rfl, ?_⟩; have n0_ := Aside0.mk (Kd.S_below (by (with_reducible repeat (first | apply Kd.S_alloc | apply Kd.S_drewN | apply Kd.S_drew)); exact HO9375970.out) hb); have n1_ := Aside0.mk (below_step (by repeat (first | (with_reducible first | exact HB.out | apply below_alloc | apply pw_below_drewN | apply below_drew1) | exact HB.out)) hb); clear HO9375970; clear HB; have HO9375970 := n0_; have HB := n1_; clear n0_ n1_; (try clear hb); (try clear hb9491778); (try clear hk); (try clear hi)) | (have mkq_ := mk0_1; clear mkq_; (with_reducible refine gate_callee (f := 6) rfl ?_); refine goesL_ (some 16) rfl rfl Try.func6 (by kernel_rfl) rfl #[.slice A0 l0.length c0] rfl (by (try simp only [List.map_toArray, List.map_cons, List.map_nil]); first | done | rfl | (simp only [List.length_drop, List.length_take]; rfl) | (go_simp; done) | (simp [Act.eval, bne]; done)) ?_; (with_reducible refine (laws_toStepS.calls k _ _ l0 tx4 _ ?side1 ?side2 Ax4.out).mono ?_); (case side1 => repeat (first | exact (Kd.C_below HR0.out HB.out) | (with_reducible refine Kd.C_alloc ?_ _) | (with_reducible refine Kd.C_drewN ?_ _) | (with_reducible refine Kd.C_drew ?_))); (case side2 => exact HC0.out); rintro e w9231252 ⟨v9282622, rfl, ho0, hb⟩; refine ⟨_, rfl, ?_⟩; have n0_ := Aside0.mk (Kd.S_elder' (by (with_reducible repeat (first | apply Kd.S_alloc | apply Kd.S_drewN | apply Kd.S_drew)); exact HO9375970.out) (Kd.S_base ho0) hb); have n1_ := Aside0.mk (Kd.S_lower (Kd.S_new' ho0 (Kd.S_lt (by (with_reducible repeat (first | apply Kd.S_alloc | apply Kd.S_drewN | apply Kd.S_drew)); exact HO9375970.out))) (below_size (by repeat (first | (with_reducible first | exact HB.out | apply below_alloc | apply pw_below_drewN | apply below_drew1) | exact HB.out)))); have n2_ := Aside0.mk (below_step (by repeat (first | (with_reducible first | exact HB.out | apply below_alloc | apply pw_below_drewN | apply below_drew1) | exact HB.out)) hb); clear HO9375970; clear HB; have HO9375970 := n0_; have HO9290077 := n1_; have HB := n2_; clear n0_ n1_ n2_; (try clear hb); (try clear hb9491778); (try clear hk); (try clear hi); (try clear ho0); obtain ⟨Ao9488862, co9488862, eo9488862⟩ := Kd.S_slice HO9290077.out; subst eo9488862) | ((with_reducible refine gate_callee (f := 7) rfl ?_); refine goesL_ (some 18) rfl rfl Try.func7 (by kernel_rfl) rfl #[.slice Ao9488862 tx4.length co9488862] rfl (by (try simp only [List.map_toArray, List.map_cons, List.map_nil]); first | done | rfl | (simp only [List.length_drop, List.length_take]; rfl) | (go_simp; done) | (simp [Act.eval, bne]; done)) ?_; (with_reducible refine (impl_IsPlain.calls k _ _ tx4 tx5 _ ?side1 ?side2 Ax5.out).mono ?_); (case side1 => repeat (first | exact (Kd.S_reads' HO9290077.out).2.2 | (with_reducible refine Kd.C_alloc ?_ _) | (with_reducible refine Kd.C_drewN ?_ _) | (with_reducible refine Kd.C_drew ?_))); (case side2 => exact (Kd.S_reads' HO9290077.out).2.1); rintro e w9214447 ⟨rfl, hb⟩; refine ⟨_, rfl, ?_⟩; have n0_ := Aside0.mk (Kd.S_below (by (with_reducible repeat (first | apply Kd.S_alloc | apply Kd.S_drewN | apply Kd.S_drew)); exact HO9375970.out) hb); have n1_ := Aside0.mk (Kd.S_below (by (with_reducible repeat (first | apply Kd.S_alloc | apply Kd.S_drewN | apply Kd.S_drew)); exact HO9290077.out) hb); have n2_ := Aside0.mk (below_step (by repeat (first | (with_reducible first | exact HB.out | apply below_alloc | apply pw_below_drewN | apply below_drew1) | exact HB.out)) hb); clear HO9375970; clear HO9290077; clear HB; have HO9375970 := n0_; have HO9290077 := n1_; have HB := n2_; clear n0_ n1_ n2_; (try clear hb); (try clear hb9491778); (try clear hk); (try clear hi)) | (have mkq_ := mk0_2; clear mkq_; (with_reducible refine gate_callee (f := 6) rfl ?_); refine goesL_ (some 24) rfl rfl Try.func6 (by kernel_rfl) rfl #[.slice A0 l0.length c0] rfl (by (try simp only [List.map_toArray, List.map_cons, List.map_nil]); first | done | rfl | (simp only [List.length_drop, List.length_take]; rfl) | (go_simp; done) | (simp [Act.eval, bne]; done)) ?_; (with_reducible refine (laws_toStepS.calls k _ _ l0 tx7 _ ?side1 ?side2 Ax7.out).mono ?_); (case side1 => repeat (first | exact (Kd.C_below HR0.out HB.out) | (with_reducible refine Kd.C_alloc ?_ _) | (with_reducible refine Kd.C_drewN ?_ _) | (with_reducible refine Kd.C_drew ?_))); (case side2 => exact HC0.out); rintro e w9721281 ⟨v9727236, rfl, ho0, hb⟩; refine ⟨_, rfl, ?_⟩; have n0_ := Aside0.mk (Kd.S_elder' (by (with_reducible repeat (first | apply Kd.S_alloc | apply Kd.S_drewN | apply Kd.S_drew)); exact HO9375970.out) (Kd.S_base ho0) hb); have n1_ := Aside0.mk (Kd.S_elder' (by (with_reducible repeat (first | apply Kd.S_alloc | apply Kd.S_drewN | apply Kd.S_drew)); exact HO9290077.out) (Kd.S_base ho0) hb); have n2_ := Aside0.mk (Kd.S_lower (Kd.S_new' (Kd.S_new' ho0 (Kd.S_lt (by (with_reducible repeat (first | apply Kd.S_alloc | apply Kd.S_drewN | apply Kd.S_drew)); exact HO9375970.out))) (Kd.S_lt (by (with_reducible repeat (first | apply Kd.S_alloc | apply Kd.S_drewN | apply Kd.S_drew)); exact HO9290077.out))) (below_size (by repeat (first | (with_reducible first | exact HB.out | apply below_alloc | apply pw_below_drewN | apply below_drew1) | exact HB.out)))); have n3_ := Aside0.mk (below_step (by repeat (first | (with_reducible first | exact HB.out | apply below_alloc | apply pw_below_drewN | apply below_drew1) | exact HB.out)) hb); clear HO9375970; clear HO9290077; clear HB; have HO9375970 := n0_; have HO9290077 := n1_; have HO9039523 := n2_; have HB := n3_; clear n0_ n1_ n2_ n3_; (try clear hb); (try clear hb9491778); (try clear hk); (try clear hi); (try clear ho0); obtain ⟨Ao9479537, co9479537, eo9479537⟩ := Kd.S_slice HO9039523.out; subst eo9479537) | ((with_reducible refine gate_callee (f := 8) rfl ?_); refine goesL_ (some 25) rfl rfl Try.func8 (by kernel_rfl) rfl #[.slice Ao9488862 tx4.length co9488862, .slice Ao9479537 tx7.length co9479537] rfl (by (try simp only [List.map_toArray, List.map_cons, List.map_nil]); first | done | rfl | (simp only [List.length_drop, List.length_take]; rfl) | (go_simp; done) | (simp [Act.eval, bne]; done)) ?_; (with_reducible refine (laws_eqStepS.calls k _ _ tx4 _ _ tx7 _ _ ?side1 ?side2 ?side3 ?side4 Ax8.out).mono ?_); (case side1 => repeat (first | exact (Kd.S_reads' HO9290077.out).2.2 | (with_reducible refine Kd.C_alloc ?_ _) | (with_reducible refine Kd.C_drewN ?_ _) | (with_reducible refine Kd.C_drew ?_))); (case side2 => exact (Kd.S_reads' HO9290077.out).2.1); (case side3 => repeat (first | exact (Kd.S_reads' HO9039523.out).2.2 | (with_reducible refine Kd.C_alloc ?_ _) | (with_reducible refine Kd.C_drewN ?_ _) | (with_reducible refine Kd.C_drew ?_))); (case side4 => exact (Kd.S_reads' HO9039523.out).2.1); rintro e w9501283 ⟨rfl, hb⟩; refine ⟨_, rfl, ?_⟩; have n0_ := Aside0.mk (Kd.S_below (by (with_reducible repeat (first | apply Kd.S_alloc | apply Kd.S_drewN | apply Kd.S_drew)); exact HO9375970.out) hb); have n1_ := Aside0.mk (Kd.S_below (by (with_reducible repeat (first | apply Kd.S_alloc | apply Kd.S_drewN | apply Kd.S_drew)); exact HO9290077.out) hb); have n2_ := Aside0.mk (Kd.S_below (by (with_reducible repeat (first | apply Kd.S_alloc | apply Kd.S_drewN | apply Kd.S_drew)); exact HO9039523.out) hb); have n3_ := Aside0.mk (below_step (by repeat (first | (with_reducible first | exact HB.out | apply below_alloc | apply pw_below_drewN | apply below_drew1) | exact HB.out)) hb); clear HO9375970; clear HO9290077; clear HO9039523; clear HB; have HO9375970 := n0_; have HO9290077 := n1_; have HO9039523 := n2_; have HB := n3_; clear n0_ n1_ n2_ n3_; (try clear hb); (try clear hb9491778); (try clear hk); (try clear hi)))
   go_ret
   exact ⟨by first | rfl | (simp [errW_none, errW_some] <;> rfl) | (simp [*, errW_none, errW_some] <;> rfl), by repeat (first | (with_reducible first | exact HB.out | apply below_alloc | apply pw_below_drewN | apply below_drew1) | exact HB.out)⟩)

end Go.Proofs.Ytjbcpghpafacaaa.I
