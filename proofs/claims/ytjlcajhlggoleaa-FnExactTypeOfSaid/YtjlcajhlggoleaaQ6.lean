-- Written by a program of this session's own (xp.py) for this seat.
import Derived.Test.YtjlcajhlggoleaaQ0
import Derived.Test.YtjlcajhlggoleaaQ4
namespace Go.Proofs.Ytjlcajhlggoleaa.Q
open Go.RowKit Go.Proofs.YtjlcajhlggoleaaW.PrintWords Go.Proofs.YtjlcajhlggoleaaW.PrintLast Go.Proofs.YtjlcajhlggoleaaW.PrintMore
attribute [local go_sem] max2_int min2_int max_two min_two max_three min_three max_four min_four   -- for this text's walks alone
set_option linter.unusedVariables false
set_option linter.unusedSimpArgs false

/-! ### spec_l3Two: function 118 -/
def spec_l3Two.f (a0 : Int) : Option (Bool) := (spec_l1In.f a0 3 9).bind fun t150 => (some t150)
set_option maxHeartbeats 8000000 in
set_option maxRecDepth 100000 in
theorem spec_l3Two.calls (a0 : Int) (r : Bool) (w : World) (h : spec_l3Two.f a0 = some r) :
    Calls Try.prog 118 #[.int .i64 a0] w fun e w' => e = .returned (.bool r) ∧ Drawn0 w w' := by
  have H : ((spec_l1In.f a0 3 9).bind fun t150 => (some t150)) = some r := h
  clear h
  replace H := Option.bind_eq_some_iff.mp H
  obtain ⟨t150, A20, H⟩ := H
  replace H : (some t150) = some r := H
  have A2 := Aside0.mk A20
  clear A20
  obtain rfl := Option.some.inj H
  go_enter Try.func118, Try.ntmps118
  go_wp2_with (first | ((with_reducible refine gate_callee (f := 55) rfl ?_); refine goesL_ (some 4) rfl rfl Try.func55 (by kernel_rfl) rfl #[.int .i64 a0, .int .i64 3, .int .i64 9] rfl (by (try simp only [List.map_toArray, List.map_cons, List.map_nil]); first | done | rfl | (simp only [List.length_drop, List.length_take]; rfl)) ?_; (with_reducible refine (spec_l1In.calls a0 3 9 t150 _ A2.out).mono ?_); rintro e w' ⟨rfl, ⟨nd, rfl⟩⟩; refine ⟨_, rfl, ?_⟩))
  go_ret
  exact ⟨by first | rfl | (simp; done) | (simp [*]; done), by repeat (first | exact Drawn0.refl _ | apply Drawn0.step)⟩

/-! ### spec_l3Node: function 99 -/
mutual
def spec_l3Node.j0 : Nat → S77 → Int → Bool → Bool → Option (Int)
  | 0, _, _, _, _ => none
  | k + 1, x0, x1, x5, x56 => if x56 = true then (some 1) else (if ((rd_T77 [x0] 0).f0) = 1 then ((spec_l1In.f ((rd_T77 [x0] 0).f1) 0 9999).bind fun t154 => (if t154 = true then (if ((rd_T77 [x0] 0).f0) = 2 then ((spec_l1In.f ((rd_T77 [x0] 0).f1) 0 3).bind fun t155 => (spec_l3Node.j1 k x0 x1 x5 (!t155))) else (spec_l3Node.j1 k x0 x1 x5 false)) else (spec_l3Node.j1 k x0 x1 x5 true))) else (if ((rd_T77 [x0] 0).f0) = 2 then ((spec_l1In.f ((rd_T77 [x0] 0).f1) 0 3).bind fun t156 => (spec_l3Node.j1 k x0 x1 x5 (!t156))) else (spec_l3Node.j1 k x0 x1 x5 false)))
def spec_l3Node.j1 : Nat → S77 → Int → Bool → Bool → Option (Int)
  | 0, _, _, _, _ => none
  | k + 1, x0, x1, x5, x84 => if x84 = true then (some 3) else (if x5 = true then ((spec_l3Two.f ((rd_T77 [x0] 0).f0)).bind fun t158 => (if t158 = true then ((spec_l1In.f ((rd_T77 [x0] 0).f3) 0 (wrap64 (x1 - 1))).bind fun t159 => (if t159 = true then (some 0) else (some 3))) else (some 0))) else ((spec_l1In.f ((rd_T77 [x0] 0).f2) 0 (wrap64 (x1 - 1))).bind fun t161 => (if t161 = true then ((spec_l3Two.f ((rd_T77 [x0] 0).f0)).bind fun t162 => (if t162 = true then ((spec_l1In.f ((rd_T77 [x0] 0).f3) 0 (wrap64 (x1 - 1))).bind fun t163 => (if t163 = true then (some 0) else (some 3))) else (some 0))) else (some 3))))
end
def spec_l3Node.f (k : Nat) (a0 : S77) (a1 : Int) : Option (Int) := (spec_l1In.f ((rd_T77 [a0] 0).f0) 1 10).bind fun t152 => (if t152 = true then (if ((rd_T77 [a0] 0).f0) ≤ 2 then (if ((rd_T77 [a0] 0).f2) = 0 then (if ((rd_T77 [a0] 0).f3) = 0 then (if ((rd_T77 [a0] 0).f0) = 10 then (spec_l3Node.j0 k a0 a1 (decide (((rd_T77 [a0] 0).f0) ≤ 2)) (((rd_T77 [a0] 0).f3) != 0)) else (spec_l3Node.j0 k a0 a1 (decide (((rd_T77 [a0] 0).f0) ≤ 2)) false)) else (spec_l3Node.j0 k a0 a1 (decide (((rd_T77 [a0] 0).f0) ≤ 2)) true)) else (spec_l3Node.j0 k a0 a1 (decide (((rd_T77 [a0] 0).f0) ≤ 2)) true)) else (if ((rd_T77 [a0] 0).f1) = 0 then (if ((rd_T77 [a0] 0).f0) = 10 then (spec_l3Node.j0 k a0 a1 (decide (((rd_T77 [a0] 0).f0) ≤ 2)) (((rd_T77 [a0] 0).f3) != 0)) else (spec_l3Node.j0 k a0 a1 (decide (((rd_T77 [a0] 0).f0) ≤ 2)) false)) else (spec_l3Node.j0 k a0 a1 (decide (((rd_T77 [a0] 0).f0) ≤ 2)) true))) else (some 1))
theorem spec_l3Node.mono_l : ∀ k, (∀ y0 y1 y2 y3, LeO (spec_l3Node.j0 k y0 y1 y2 y3) (spec_l3Node.j0 (k + 1) y0 y1 y2 y3)) ∧ (∀ y0 y1 y2 y3, LeO (spec_l3Node.j1 k y0 y1 y2 y3) (spec_l3Node.j1 (k + 1) y0 y1 y2 y3))
  | 0 => ⟨fun _ _ _ _ r h => by simp [spec_l3Node.j0] at h, fun _ _ _ _ r h => by simp [spec_l3Node.j1] at h⟩
  | k + 1 => by
    obtain ⟨ih0, ih1⟩ := spec_l3Node.mono_l k
    refine ⟨?_, ?_⟩
    · intro y0 y1 y2 y3
      unfold spec_l3Node.j0
      repeat' first
      | (with_reducible exact ih0 _ _ _ _)
      | (with_reducible exact ih1 _ _ _ _)
      | (with_reducible exact LeO.refl _)
      | (with_reducible exact LeO.none _)
      | (with_reducible refine LeO.ite ?_ ?_)
      | (with_reducible refine LeO.bind ?_ (fun _ => ?_))
      | exact ih0 _ _ _ _
      | exact ih1 _ _ _ _
      | exact LeO.none _
      | refine LeO.ite ?_ ?_
      | refine LeO.bind ?_ (fun _ => ?_)
    · intro y0 y1 y2 y3
      unfold spec_l3Node.j1
      repeat' first
      | (with_reducible exact ih0 _ _ _ _)
      | (with_reducible exact ih1 _ _ _ _)
      | (with_reducible exact LeO.refl _)
      | (with_reducible exact LeO.none _)
      | (with_reducible refine LeO.ite ?_ ?_)
      | (with_reducible refine LeO.bind ?_ (fun _ => ?_))
      | exact ih0 _ _ _ _
      | exact ih1 _ _ _ _
      | exact LeO.none _
      | refine LeO.ite ?_ ?_
      | refine LeO.bind ?_ (fun _ => ?_)
theorem spec_l3Node.mono : ∀ a0 a1 k, LeO (spec_l3Node.f k a0 a1) (spec_l3Node.f (k + 1) a0 a1) := by
  intro a0 a1 k
  obtain ⟨ih0, ih1⟩ := spec_l3Node.mono_l k
  unfold spec_l3Node.f
  repeat' first
      | (with_reducible exact ih0 _ _ _ _)
      | (with_reducible exact ih1 _ _ _ _)
      | (with_reducible exact LeO.refl _)
      | (with_reducible exact LeO.none _)
      | (with_reducible refine LeO.ite ?_ ?_)
      | (with_reducible refine LeO.bind ?_ (fun _ => ?_))
      | exact ih0 _ _ _ _
      | exact ih1 _ _ _ _
      | exact LeO.none _
      | refine LeO.ite ?_ ?_
      | refine LeO.bind ?_ (fun _ => ?_)
set_option maxHeartbeats 8000000 in
set_option maxRecDepth 100000 in
theorem spec_l3Node.calls (k : Nat) (adp0 : Addr) (a0 : S77) (a1 : Int) (r : Int) (w : World) (hr0 : Kd.C k77 w (some adp0) 1 [a0]) (h : spec_l3Node.f k a0 a1 = some r) :
    Calls Try.prog 99 #[.pointer (some adp0), .int .i64 a1] w fun e w' => e = .returned (.int .i64 r) ∧ Drawn0 w w' := by
  have HR0 := Aside0.mk hr0
  clear hr0
  have H : ((spec_l1In.f ((rd_T77 [a0] 0).f0) 1 10).bind fun t152 => (if t152 = true then (if ((rd_T77 [a0] 0).f0) ≤ 2 then (if ((rd_T77 [a0] 0).f2) = 0 then (if ((rd_T77 [a0] 0).f3) = 0 then (if ((rd_T77 [a0] 0).f0) = 10 then (spec_l3Node.j0 k a0 a1 (decide (((rd_T77 [a0] 0).f0) ≤ 2)) (((rd_T77 [a0] 0).f3) != 0)) else (spec_l3Node.j0 k a0 a1 (decide (((rd_T77 [a0] 0).f0) ≤ 2)) false)) else (spec_l3Node.j0 k a0 a1 (decide (((rd_T77 [a0] 0).f0) ≤ 2)) true)) else (spec_l3Node.j0 k a0 a1 (decide (((rd_T77 [a0] 0).f0) ≤ 2)) true)) else (if ((rd_T77 [a0] 0).f1) = 0 then (if ((rd_T77 [a0] 0).f0) = 10 then (spec_l3Node.j0 k a0 a1 (decide (((rd_T77 [a0] 0).f0) ≤ 2)) (((rd_T77 [a0] 0).f3) != 0)) else (spec_l3Node.j0 k a0 a1 (decide (((rd_T77 [a0] 0).f0) ≤ 2)) false)) else (spec_l3Node.j0 k a0 a1 (decide (((rd_T77 [a0] 0).f0) ≤ 2)) true))) else (some 1))) = some r := h
  clear h
  replace H := Option.bind_eq_some_iff.mp H
  obtain ⟨t152, A30, H⟩ := H
  replace H : (if t152 = true then (if ((rd_T77 [a0] 0).f0) ≤ 2 then (if ((rd_T77 [a0] 0).f2) = 0 then (if ((rd_T77 [a0] 0).f3) = 0 then (if ((rd_T77 [a0] 0).f0) = 10 then (spec_l3Node.j0 k a0 a1 (decide (((rd_T77 [a0] 0).f0) ≤ 2)) (((rd_T77 [a0] 0).f3) != 0)) else (spec_l3Node.j0 k a0 a1 (decide (((rd_T77 [a0] 0).f0) ≤ 2)) false)) else (spec_l3Node.j0 k a0 a1 (decide (((rd_T77 [a0] 0).f0) ≤ 2)) true)) else (spec_l3Node.j0 k a0 a1 (decide (((rd_T77 [a0] 0).f0) ≤ 2)) true)) else (if ((rd_T77 [a0] 0).f1) = 0 then (if ((rd_T77 [a0] 0).f0) = 10 then (spec_l3Node.j0 k a0 a1 (decide (((rd_T77 [a0] 0).f0) ≤ 2)) (((rd_T77 [a0] 0).f3) != 0)) else (spec_l3Node.j0 k a0 a1 (decide (((rd_T77 [a0] 0).f0) ≤ 2)) false)) else (spec_l3Node.j0 k a0 a1 (decide (((rd_T77 [a0] 0).f0) ≤ 2)) true))) else (some 1)) = some r := H
  have A3 := Aside0.mk A30
  clear A30
  by_cases c4 : t152 = true
  · subst c4
    have H1 : (if ((rd_T77 [a0] 0).f0) ≤ 2 then (if ((rd_T77 [a0] 0).f2) = 0 then (if ((rd_T77 [a0] 0).f3) = 0 then (if ((rd_T77 [a0] 0).f0) = 10 then (spec_l3Node.j0 k a0 a1 (decide (((rd_T77 [a0] 0).f0) ≤ 2)) (((rd_T77 [a0] 0).f3) != 0)) else (spec_l3Node.j0 k a0 a1 (decide (((rd_T77 [a0] 0).f0) ≤ 2)) false)) else (spec_l3Node.j0 k a0 a1 (decide (((rd_T77 [a0] 0).f0) ≤ 2)) true)) else (spec_l3Node.j0 k a0 a1 (decide (((rd_T77 [a0] 0).f0) ≤ 2)) true)) else (if ((rd_T77 [a0] 0).f1) = 0 then (if ((rd_T77 [a0] 0).f0) = 10 then (spec_l3Node.j0 k a0 a1 (decide (((rd_T77 [a0] 0).f0) ≤ 2)) (((rd_T77 [a0] 0).f3) != 0)) else (spec_l3Node.j0 k a0 a1 (decide (((rd_T77 [a0] 0).f0) ≤ 2)) false)) else (spec_l3Node.j0 k a0 a1 (decide (((rd_T77 [a0] 0).f0) ≤ 2)) true))) = some r := by rw [if_pos rfl] at H; exact H
    clear H
    have H := H1
    clear H1
    have HC5 := Aside0.mk H
    clear H
    have p151 : 0 ≤ (0 : Int) := (by omega)
    have q151 : 0 < ([a0].length : Int) := (by simp)
    obtain ⟨ad151, e151, hx151_0, hx151_1, hx151_2, hx151_3⟩ := at_T77 HR0.out 0 p151 q151
    obtain rfl : adp0 = ad151 := (by injection e151)
    have qi151 : (0 < [a0].length) = True := eq_true (by omega)
    (try rw [show ((0 : Int)).toNat = 0 from rfl] at hx151_0)
    (try rw [show 0 * 4 = 0 from rfl] at hx151_0)
    (try rw [Addr.add_zero'] at hx151_0)
    (try rw [show ((0 : Int)).toNat = 0 from rfl] at hx151_1)
    (try rw [show 0 * 4 = 0 from rfl] at hx151_1)
    (try rw [Addr.add_zero'] at hx151_1)
    (try rw [show ((0 : Int)).toNat = 0 from rfl] at hx151_2)
    (try rw [show 0 * 4 = 0 from rfl] at hx151_2)
    (try rw [Addr.add_zero'] at hx151_2)
    (try rw [show ((0 : Int)).toNat = 0 from rfl] at hx151_3)
    (try rw [show 0 * 4 = 0 from rfl] at hx151_3)
    (try rw [Addr.add_zero'] at hx151_3)
    replace p151 := eq_true p151
    replace q151 := eq_true q151
    go_enter Try.func99, Try.ntmps99
    go_upto_region 4 with (first | ((with_reducible refine gate_callee (f := 55) rfl ?_); refine goesL_ (some 10) rfl rfl Try.func55 (by kernel_rfl) rfl #[.int .i64 ((rd_T77 [a0] 0).f0), .int .i64 1, .int .i64 10] rfl (by (try simp only [List.map_toArray, List.map_cons, List.map_nil]); first | done | rfl | (simp only [List.length_drop, List.length_take]; rfl)) ?_; (with_reducible refine (spec_l1In.calls ((rd_T77 [a0] 0).f0) 1 10 true _ A3.out).mono ?_); rintro e w' ⟨rfl, ⟨nd, rfl⟩⟩; refine ⟨_, rfl, ?_⟩))
    (try simp only [Act.put, List.setIfInBounds_toArray, List.set_cons_zero, List.set_cons_succ])
    go_cut [5, 56] (fun v5 v56 wc => ∃ (kq : Nat) (x5_4 : Bool) (x56_4 : Bool), v5 = .bool x5_4 ∧ v56 = .bool x56_4 ∧ Aside0 (spec_l3Node.j0 kq a0 a1 x5_4 x56_4 = some r) ∧ Aside0 (kq ≤ k) ∧ Drawn0 w wc)
    case first =>
      have H := HC5.out
      clear HC5
      by_cases c6 : ((rd_T77 [a0] 0).f0) ≤ 2
      · rw [if_pos c6] at H
        have c6b0 : decide (((rd_T77 [a0] 0).f0) ≤ 2) = true := decide_eq_true c6
        clear c6
        (first | rw [c6b0] | (simp only [i64_w, i32_w]; rw [c6b0]) | skip)
        by_cases c7 : ((rd_T77 [a0] 0).f2) = 0
        · rw [if_pos c7] at H
          have c7b0 : (((rd_T77 [a0] 0).f2) == 0) = true := beq_iff_eq.mpr c7
          have c7b1 : (((rd_T77 [a0] 0).f2) != 0) = false := bne_eq_false_iff_eq.mpr c7
          clear c7
          by_cases c8 : ((rd_T77 [a0] 0).f3) = 0
          · rw [if_pos c8] at H
            have c8b0 : (((rd_T77 [a0] 0).f3) == 0) = true := beq_iff_eq.mpr c8
            have c8b1 : (((rd_T77 [a0] 0).f3) != 0) = false := bne_eq_false_iff_eq.mpr c8
            clear c8
            by_cases c9 : ((rd_T77 [a0] 0).f0) = 10
            · rw [if_pos c9] at H
              have c9b0 : (((rd_T77 [a0] 0).f0) == 10) = true := beq_iff_eq.mpr c9
              have c9b1 : (((rd_T77 [a0] 0).f0) != 10) = false := bne_eq_false_iff_eq.mpr c9
              clear c9
              have H' := Aside0.mk H
              clear H
              go_wp2
              go_meet
              case rel => exact ⟨_, (decide (((rd_T77 [a0] 0).f0) ≤ 2)), ((((rd_T77 [a0] 0).f3) != 0)), (by first | rfl | (simp; done) | (simp [*]; done)), (by first | rfl | (simp; done) | (simp [*]; done)), H', ⟨by first | omega | exact Nat.le_refl _⟩, by repeat (first | exact Drawn0.refl _ | apply Drawn0.step)⟩
            · rw [if_neg c9] at H
              have c9b0 : (((rd_T77 [a0] 0).f0) == 10) = false := beq_eq_false_iff_ne.mpr c9
              have c9b1 : (((rd_T77 [a0] 0).f0) != 10) = true := bne_iff_ne.mpr c9
              have H' := Aside0.mk H
              clear H
              go_wp2
              go_meet
              case rel => exact ⟨_, (decide (((rd_T77 [a0] 0).f0) ≤ 2)), (false), (by first | rfl | (simp; done) | (simp [*]; done)), (by first | rfl | (simp; done) | (simp [*]; done)), H', ⟨by first | omega | exact Nat.le_refl _⟩, by repeat (first | exact Drawn0.refl _ | apply Drawn0.step)⟩
          · rw [if_neg c8] at H
            have c8b0 : (((rd_T77 [a0] 0).f3) == 0) = false := beq_eq_false_iff_ne.mpr c8
            have c8b1 : (((rd_T77 [a0] 0).f3) != 0) = true := bne_iff_ne.mpr c8
            have H' := Aside0.mk H
            clear H
            go_wp2
            go_meet
            case rel => exact ⟨_, (decide (((rd_T77 [a0] 0).f0) ≤ 2)), (true), (by first | rfl | (simp; done) | (simp [*]; done)), (by first | rfl | (simp; done) | (simp [*]; done)), H', ⟨by first | omega | exact Nat.le_refl _⟩, by repeat (first | exact Drawn0.refl _ | apply Drawn0.step)⟩
        · rw [if_neg c7] at H
          have c7b0 : (((rd_T77 [a0] 0).f2) == 0) = false := beq_eq_false_iff_ne.mpr c7
          have c7b1 : (((rd_T77 [a0] 0).f2) != 0) = true := bne_iff_ne.mpr c7
          have H' := Aside0.mk H
          clear H
          go_wp2
          go_meet
          case rel => exact ⟨_, (decide (((rd_T77 [a0] 0).f0) ≤ 2)), (true), (by first | rfl | (simp; done) | (simp [*]; done)), (by first | rfl | (simp; done) | (simp [*]; done)), H', ⟨by first | omega | exact Nat.le_refl _⟩, by repeat (first | exact Drawn0.refl _ | apply Drawn0.step)⟩
      · rw [if_neg c6] at H
        have c6b0 : decide (((rd_T77 [a0] 0).f0) ≤ 2) = false := decide_eq_false c6
        clear c6
        (first | rw [c6b0] | (simp only [i64_w, i32_w]; rw [c6b0]) | skip)
        by_cases c10 : ((rd_T77 [a0] 0).f1) = 0
        · rw [if_pos c10] at H
          have c10b0 : (((rd_T77 [a0] 0).f1) == 0) = true := beq_iff_eq.mpr c10
          have c10b1 : (((rd_T77 [a0] 0).f1) != 0) = false := bne_eq_false_iff_eq.mpr c10
          clear c10
          by_cases c11 : ((rd_T77 [a0] 0).f0) = 10
          · rw [if_pos c11] at H
            have c11b0 : (((rd_T77 [a0] 0).f0) == 10) = true := beq_iff_eq.mpr c11
            have c11b1 : (((rd_T77 [a0] 0).f0) != 10) = false := bne_eq_false_iff_eq.mpr c11
            clear c11
            have H' := Aside0.mk H
            clear H
            go_wp2
            go_meet
            case rel => exact ⟨_, (decide (((rd_T77 [a0] 0).f0) ≤ 2)), ((((rd_T77 [a0] 0).f3) != 0)), (by first | rfl | (simp; done) | (simp [*]; done)), (by first | rfl | (simp; done) | (simp [*]; done)), H', ⟨by first | omega | exact Nat.le_refl _⟩, by repeat (first | exact Drawn0.refl _ | apply Drawn0.step)⟩
          · rw [if_neg c11] at H
            have c11b0 : (((rd_T77 [a0] 0).f0) == 10) = false := beq_eq_false_iff_ne.mpr c11
            have c11b1 : (((rd_T77 [a0] 0).f0) != 10) = true := bne_iff_ne.mpr c11
            have H' := Aside0.mk H
            clear H
            go_wp2
            go_meet
            case rel => exact ⟨_, (decide (((rd_T77 [a0] 0).f0) ≤ 2)), (false), (by first | rfl | (simp; done) | (simp [*]; done)), (by first | rfl | (simp; done) | (simp [*]; done)), H', ⟨by first | omega | exact Nat.le_refl _⟩, by repeat (first | exact Drawn0.refl _ | apply Drawn0.step)⟩
        · rw [if_neg c10] at H
          have c10b0 : (((rd_T77 [a0] 0).f1) == 0) = false := beq_eq_false_iff_ne.mpr c10
          have c10b1 : (((rd_T77 [a0] 0).f1) != 0) = true := bne_iff_ne.mpr c10
          have H' := Aside0.mk H
          clear H
          go_wp2
          go_meet
          case rel => exact ⟨_, (decide (((rd_T77 [a0] 0).f0) ≤ 2)), (true), (by first | rfl | (simp; done) | (simp [*]; done)), (by first | rfl | (simp; done) | (simp [*]; done)), H', ⟨by first | omega | exact Nat.le_refl _⟩, by repeat (first | exact Drawn0.refl _ | apply Drawn0.step)⟩
    case rest =>
      clear HC5
      try clear c1
      try clear p1
      try clear q1
      try clear hx1
      try clear qi1
      try clear p2
      try clear c4
      try clear c5
      try clear c6
      try clear c6b0
      try clear c7
      try clear c7b0
      try clear c7b1
      try clear c8
      try clear c8b0
      try clear c8b1
      try clear c9
      try clear c9b0
      try clear c9b1
      try clear c10
      try clear c10b0
      try clear c10b1
      try clear c11
      try clear c11b0
      try clear c11b1
      try clear hx151_0
      try clear hx151_1
      try clear hx151_2
      try clear hx151_3
      try clear p151
      try clear q151
      obtain ⟨kq, x5_4, x56_4, rfl, rfl, HA, HJ4, ⟨mc4, rfl⟩⟩ := hcut
      cases kq with
      | zero => exact absurd HA.out (by simp [spec_l3Node.j0])
      | succ kj4 =>
        have H := HA.out
        clear HA
        simp only [spec_l3Node.j0] at H
        by_cases c12 : x56_4 = true
        · subst c12
          have H1 : (some 1) = some r := by rw [if_pos rfl] at H; exact H
          clear H
          have H := H1
          clear H1
          obtain rfl := Option.some.inj H
          go_wp2
          go_ret
          exact ⟨by first | rfl | (simp; done) | (simp [*]; done), by repeat (first | exact Drawn0.refl _ | apply Drawn0.step)⟩
        · replace c12 := Bool.eq_false_iff.mpr c12
          subst c12
          have H1 : (if ((rd_T77 [a0] 0).f0) = 1 then ((spec_l1In.f ((rd_T77 [a0] 0).f1) 0 9999).bind fun t154 => (if t154 = true then (if ((rd_T77 [a0] 0).f0) = 2 then ((spec_l1In.f ((rd_T77 [a0] 0).f1) 0 3).bind fun t155 => (spec_l3Node.j1 kj4 a0 a1 x5_4 (!t155))) else (spec_l3Node.j1 kj4 a0 a1 x5_4 false)) else (spec_l3Node.j1 kj4 a0 a1 x5_4 true))) else (if ((rd_T77 [a0] 0).f0) = 2 then ((spec_l1In.f ((rd_T77 [a0] 0).f1) 0 3).bind fun t156 => (spec_l3Node.j1 kj4 a0 a1 x5_4 (!t156))) else (spec_l3Node.j1 kj4 a0 a1 x5_4 false))) = some r := by rw [if_neg (show ¬ (false = true) by decide)] at H; exact H
          clear H
          have H := H1
          clear H1
          have HC13 := Aside0.mk H
          clear H
          go_upto_region 6 with (fail)
          go_cut [5, 84] (fun v5 v84 wc => ∃ (kq : Nat) (x5_12 : Bool) (x84_12 : Bool), v5 = .bool x5_12 ∧ v84 = .bool x84_12 ∧ Aside0 (spec_l3Node.j1 kq a0 a1 x5_12 x84_12 = some r) ∧ Aside0 (kq ≤ kj4) ∧ Drawn0 w wc)
          case first =>
            have H := HC13.out
            clear HC13
            by_cases c14 : ((rd_T77 [a0] 0).f0) = 1
            · rw [if_pos c14] at H
              have c14b0 : (((rd_T77 [a0] 0).f0) == 1) = true := beq_iff_eq.mpr c14
              have c14b1 : (((rd_T77 [a0] 0).f0) != 1) = false := bne_eq_false_iff_eq.mpr c14
              clear c14
              (first | rw [c14b0] | (simp only [i64_w, i32_w]; rw [c14b0]) | skip)
              replace H := Option.bind_eq_some_iff.mp H
              obtain ⟨t154, A150, H⟩ := H
              replace H : (if t154 = true then (if ((rd_T77 [a0] 0).f0) = 2 then ((spec_l1In.f ((rd_T77 [a0] 0).f1) 0 3).bind fun t155 => (spec_l3Node.j1 kj4 a0 a1 x5_4 (!t155))) else (spec_l3Node.j1 kj4 a0 a1 x5_4 false)) else (spec_l3Node.j1 kj4 a0 a1 x5_4 true)) = some r := H
              have A15 := Aside0.mk A150
              clear A150
              by_cases c16 : t154 = true
              · subst c16
                have H1 : (if ((rd_T77 [a0] 0).f0) = 2 then ((spec_l1In.f ((rd_T77 [a0] 0).f1) 0 3).bind fun t155 => (spec_l3Node.j1 kj4 a0 a1 x5_4 (!t155))) else (spec_l3Node.j1 kj4 a0 a1 x5_4 false)) = some r := by rw [if_pos rfl] at H; exact H
                clear H
                have H := H1
                clear H1
                by_cases c17 : ((rd_T77 [a0] 0).f0) = 2
                · rw [if_pos c17] at H
                  have c17b0 : (((rd_T77 [a0] 0).f0) == 2) = true := beq_iff_eq.mpr c17
                  have c17b1 : (((rd_T77 [a0] 0).f0) != 2) = false := bne_eq_false_iff_eq.mpr c17
                  clear c17
                  replace H := Option.bind_eq_some_iff.mp H
                  obtain ⟨t155, A180, H⟩ := H
                  replace H : (spec_l3Node.j1 kj4 a0 a1 x5_4 (!t155)) = some r := H
                  have A18 := Aside0.mk A180
                  clear A180
                  have H' := Aside0.mk H
                  clear H
                  have p153 : 0 ≤ (0 : Int) := (by omega)
                  have q153 : 0 < ([a0].length : Int) := (by simp)
                  obtain ⟨ad153, e153, hx153_0, hx153_1, hx153_2, hx153_3⟩ := at_T77 HR0.out 0 p153 q153
                  obtain rfl : adp0 = ad153 := (by injection e153)
                  have qi153 : (0 < [a0].length) = True := eq_true (by omega)
                  (try rw [show ((0 : Int)).toNat = 0 from rfl] at hx153_0)
                  (try rw [show 0 * 4 = 0 from rfl] at hx153_0)
                  (try rw [Addr.add_zero'] at hx153_0)
                  (try rw [show ((0 : Int)).toNat = 0 from rfl] at hx153_1)
                  (try rw [show 0 * 4 = 0 from rfl] at hx153_1)
                  (try rw [Addr.add_zero'] at hx153_1)
                  (try rw [show ((0 : Int)).toNat = 0 from rfl] at hx153_2)
                  (try rw [show 0 * 4 = 0 from rfl] at hx153_2)
                  (try rw [Addr.add_zero'] at hx153_2)
                  (try rw [show ((0 : Int)).toNat = 0 from rfl] at hx153_3)
                  (try rw [show 0 * 4 = 0 from rfl] at hx153_3)
                  (try rw [Addr.add_zero'] at hx153_3)
                  replace p153 := eq_true p153
                  replace q153 := eq_true q153
                  go_wp2_with (first | (go_at_call 55; (with_reducible refine (spec_l1In.calls ((rd_T77 [a0] 0).f1) 0 9999 true _ A15.out).mono ?_); rintro e w' ⟨rfl, ⟨nd, rfl⟩⟩) | (go_at_call 55; (with_reducible refine (spec_l1In.calls ((rd_T77 [a0] 0).f1) 0 3 t155 _ A18.out).mono ?_); rintro e w' ⟨rfl, ⟨nd, rfl⟩⟩))
                  go_meet
                  case rel => exact ⟨_, (x5_4), (!t155), (by first | rfl | (simp; done) | (simp [*]; done)), (by first | rfl | (simp; done) | (simp [*]; done)), H', ⟨by have := HJ4.out; first | omega | exact Nat.le_refl _⟩, by repeat (first | exact Drawn0.refl _ | apply Drawn0.step)⟩
                · rw [if_neg c17] at H
                  have c17b0 : (((rd_T77 [a0] 0).f0) == 2) = false := beq_eq_false_iff_ne.mpr c17
                  have c17b1 : (((rd_T77 [a0] 0).f0) != 2) = true := bne_iff_ne.mpr c17
                  have H' := Aside0.mk H
                  clear H
                  have p153 : 0 ≤ (0 : Int) := (by omega)
                  have q153 : 0 < ([a0].length : Int) := (by simp)
                  obtain ⟨ad153, e153, hx153_0, hx153_1, hx153_2, hx153_3⟩ := at_T77 HR0.out 0 p153 q153
                  obtain rfl : adp0 = ad153 := (by injection e153)
                  have qi153 : (0 < [a0].length) = True := eq_true (by omega)
                  (try rw [show ((0 : Int)).toNat = 0 from rfl] at hx153_0)
                  (try rw [show 0 * 4 = 0 from rfl] at hx153_0)
                  (try rw [Addr.add_zero'] at hx153_0)
                  (try rw [show ((0 : Int)).toNat = 0 from rfl] at hx153_1)
                  (try rw [show 0 * 4 = 0 from rfl] at hx153_1)
                  (try rw [Addr.add_zero'] at hx153_1)
                  (try rw [show ((0 : Int)).toNat = 0 from rfl] at hx153_2)
                  (try rw [show 0 * 4 = 0 from rfl] at hx153_2)
                  (try rw [Addr.add_zero'] at hx153_2)
                  (try rw [show ((0 : Int)).toNat = 0 from rfl] at hx153_3)
                  (try rw [show 0 * 4 = 0 from rfl] at hx153_3)
                  (try rw [Addr.add_zero'] at hx153_3)
                  replace p153 := eq_true p153
                  replace q153 := eq_true q153
                  go_wp2_with (first | (go_at_call 55; (with_reducible refine (spec_l1In.calls ((rd_T77 [a0] 0).f1) 0 9999 true _ A15.out).mono ?_); rintro e w' ⟨rfl, ⟨nd, rfl⟩⟩))
                  go_meet
                  case rel => exact ⟨_, (x5_4), (false), (by first | rfl | (simp; done) | (simp [*]; done)), (by first | rfl | (simp; done) | (simp [*]; done)), H', ⟨by have := HJ4.out; first | omega | exact Nat.le_refl _⟩, by repeat (first | exact Drawn0.refl _ | apply Drawn0.step)⟩
              · replace c16 := Bool.eq_false_iff.mpr c16
                subst c16
                have H1 : (spec_l3Node.j1 kj4 a0 a1 x5_4 true) = some r := by rw [if_neg (show ¬ (false = true) by decide)] at H; exact H
                clear H
                have H := H1
                clear H1
                have H' := Aside0.mk H
                clear H
                have p153 : 0 ≤ (0 : Int) := (by omega)
                have q153 : 0 < ([a0].length : Int) := (by simp)
                obtain ⟨ad153, e153, hx153_0, hx153_1, hx153_2, hx153_3⟩ := at_T77 HR0.out 0 p153 q153
                obtain rfl : adp0 = ad153 := (by injection e153)
                have qi153 : (0 < [a0].length) = True := eq_true (by omega)
                (try rw [show ((0 : Int)).toNat = 0 from rfl] at hx153_0)
                (try rw [show 0 * 4 = 0 from rfl] at hx153_0)
                (try rw [Addr.add_zero'] at hx153_0)
                (try rw [show ((0 : Int)).toNat = 0 from rfl] at hx153_1)
                (try rw [show 0 * 4 = 0 from rfl] at hx153_1)
                (try rw [Addr.add_zero'] at hx153_1)
                (try rw [show ((0 : Int)).toNat = 0 from rfl] at hx153_2)
                (try rw [show 0 * 4 = 0 from rfl] at hx153_2)
                (try rw [Addr.add_zero'] at hx153_2)
                (try rw [show ((0 : Int)).toNat = 0 from rfl] at hx153_3)
                (try rw [show 0 * 4 = 0 from rfl] at hx153_3)
                (try rw [Addr.add_zero'] at hx153_3)
                replace p153 := eq_true p153
                replace q153 := eq_true q153
                go_wp2_with (first | (go_at_call 55; (with_reducible refine (spec_l1In.calls ((rd_T77 [a0] 0).f1) 0 9999 false _ A15.out).mono ?_); rintro e w' ⟨rfl, ⟨nd, rfl⟩⟩))
                go_meet
                case rel => exact ⟨_, (x5_4), (true), (by first | rfl | (simp; done) | (simp [*]; done)), (by first | rfl | (simp; done) | (simp [*]; done)), H', ⟨by have := HJ4.out; first | omega | exact Nat.le_refl _⟩, by repeat (first | exact Drawn0.refl _ | apply Drawn0.step)⟩
            · rw [if_neg c14] at H
              have c14b0 : (((rd_T77 [a0] 0).f0) == 1) = false := beq_eq_false_iff_ne.mpr c14
              have c14b1 : (((rd_T77 [a0] 0).f0) != 1) = true := bne_iff_ne.mpr c14
              (first | rw [c14b0] | (simp only [i64_w, i32_w]; rw [c14b0]) | skip)
              by_cases c19 : ((rd_T77 [a0] 0).f0) = 2
              · rw [if_pos c19] at H
                have c19b0 : (((rd_T77 [a0] 0).f0) == 2) = true := beq_iff_eq.mpr c19
                have c19b1 : (((rd_T77 [a0] 0).f0) != 2) = false := bne_eq_false_iff_eq.mpr c19
                clear c19
                replace H := Option.bind_eq_some_iff.mp H
                obtain ⟨t156, A200, H⟩ := H
                replace H : (spec_l3Node.j1 kj4 a0 a1 x5_4 (!t156)) = some r := H
                have A20 := Aside0.mk A200
                clear A200
                have H' := Aside0.mk H
                clear H
                have p153 : 0 ≤ (0 : Int) := (by omega)
                have q153 : 0 < ([a0].length : Int) := (by simp)
                obtain ⟨ad153, e153, hx153_0, hx153_1, hx153_2, hx153_3⟩ := at_T77 HR0.out 0 p153 q153
                obtain rfl : adp0 = ad153 := (by injection e153)
                have qi153 : (0 < [a0].length) = True := eq_true (by omega)
                (try rw [show ((0 : Int)).toNat = 0 from rfl] at hx153_0)
                (try rw [show 0 * 4 = 0 from rfl] at hx153_0)
                (try rw [Addr.add_zero'] at hx153_0)
                (try rw [show ((0 : Int)).toNat = 0 from rfl] at hx153_1)
                (try rw [show 0 * 4 = 0 from rfl] at hx153_1)
                (try rw [Addr.add_zero'] at hx153_1)
                (try rw [show ((0 : Int)).toNat = 0 from rfl] at hx153_2)
                (try rw [show 0 * 4 = 0 from rfl] at hx153_2)
                (try rw [Addr.add_zero'] at hx153_2)
                (try rw [show ((0 : Int)).toNat = 0 from rfl] at hx153_3)
                (try rw [show 0 * 4 = 0 from rfl] at hx153_3)
                (try rw [Addr.add_zero'] at hx153_3)
                replace p153 := eq_true p153
                replace q153 := eq_true q153
                go_wp2_with (first | (go_at_call 55; (with_reducible refine (spec_l1In.calls ((rd_T77 [a0] 0).f1) 0 3 t156 _ A20.out).mono ?_); rintro e w' ⟨rfl, ⟨nd, rfl⟩⟩))
                go_meet
                case rel => exact ⟨_, (x5_4), (!t156), (by first | rfl | (simp; done) | (simp [*]; done)), (by first | rfl | (simp; done) | (simp [*]; done)), H', ⟨by have := HJ4.out; first | omega | exact Nat.le_refl _⟩, by repeat (first | exact Drawn0.refl _ | apply Drawn0.step)⟩
              · rw [if_neg c19] at H
                have c19b0 : (((rd_T77 [a0] 0).f0) == 2) = false := beq_eq_false_iff_ne.mpr c19
                have c19b1 : (((rd_T77 [a0] 0).f0) != 2) = true := bne_iff_ne.mpr c19
                have H' := Aside0.mk H
                clear H
                have p153 : 0 ≤ (0 : Int) := (by omega)
                have q153 : 0 < ([a0].length : Int) := (by simp)
                obtain ⟨ad153, e153, hx153_0, hx153_1, hx153_2, hx153_3⟩ := at_T77 HR0.out 0 p153 q153
                obtain rfl : adp0 = ad153 := (by injection e153)
                have qi153 : (0 < [a0].length) = True := eq_true (by omega)
                (try rw [show ((0 : Int)).toNat = 0 from rfl] at hx153_0)
                (try rw [show 0 * 4 = 0 from rfl] at hx153_0)
                (try rw [Addr.add_zero'] at hx153_0)
                (try rw [show ((0 : Int)).toNat = 0 from rfl] at hx153_1)
                (try rw [show 0 * 4 = 0 from rfl] at hx153_1)
                (try rw [Addr.add_zero'] at hx153_1)
                (try rw [show ((0 : Int)).toNat = 0 from rfl] at hx153_2)
                (try rw [show 0 * 4 = 0 from rfl] at hx153_2)
                (try rw [Addr.add_zero'] at hx153_2)
                (try rw [show ((0 : Int)).toNat = 0 from rfl] at hx153_3)
                (try rw [show 0 * 4 = 0 from rfl] at hx153_3)
                (try rw [Addr.add_zero'] at hx153_3)
                replace p153 := eq_true p153
                replace q153 := eq_true q153
                go_wp2
                go_meet
                case rel => exact ⟨_, (x5_4), (false), (by first | rfl | (simp; done) | (simp [*]; done)), (by first | rfl | (simp; done) | (simp [*]; done)), H', ⟨by have := HJ4.out; first | omega | exact Nat.le_refl _⟩, by repeat (first | exact Drawn0.refl _ | apply Drawn0.step)⟩
          case rest =>
            clear HC13
            try clear c1
            try clear p1
            try clear q1
            try clear hx1
            try clear qi1
            try clear p2
            try clear c4
            try clear c5
            try clear c6
            try clear c6b0
            try clear c7
            try clear c7b0
            try clear c7b1
            try clear c8
            try clear c8b0
            try clear c8b1
            try clear c9
            try clear c9b0
            try clear c9b1
            try clear c10
            try clear c10b0
            try clear c10b1
            try clear c11
            try clear c11b0
            try clear c11b1
            try clear c12
            try clear c14
            try clear c14b0
            try clear c14b1
            try clear p15
            try clear q15
            try clear hx15
            try clear qi15
            try clear c16
            try clear c17
            try clear c17b0
            try clear c17b1
            try clear c19
            try clear c19b0
            try clear c19b1
            try clear hx151_0
            try clear hx151_1
            try clear hx151_2
            try clear hx151_3
            try clear hx153_0
            try clear hx153_1
            try clear hx153_2
            try clear hx153_3
            try clear p1
            try clear p151
            try clear p153
            try clear p2
            try clear q1
            try clear q151
            try clear q153
            obtain ⟨kq, x5_12, x84_12, rfl, rfl, HA, HJ12, ⟨mc12, rfl⟩⟩ := hcut
            cases kq with
            | zero => exact absurd HA.out (by simp [spec_l3Node.j1])
            | succ kj12 =>
              have H := HA.out
              clear HA
              simp only [spec_l3Node.j1] at H
              by_cases c21 : x84_12 = true
              · subst c21
                have H1 : (some 3) = some r := by rw [if_pos rfl] at H; exact H
                clear H
                have H := H1
                clear H1
                obtain rfl := Option.some.inj H
                go_wp2
                go_ret
                exact ⟨by first | rfl | (simp; done) | (simp [*]; done), by repeat (first | exact Drawn0.refl _ | apply Drawn0.step)⟩
              · replace c21 := Bool.eq_false_iff.mpr c21
                subst c21
                have H1 : (if x5_12 = true then ((spec_l3Two.f ((rd_T77 [a0] 0).f0)).bind fun t158 => (if t158 = true then ((spec_l1In.f ((rd_T77 [a0] 0).f3) 0 (wrap64 (a1 - 1))).bind fun t159 => (if t159 = true then (some 0) else (some 3))) else (some 0))) else ((spec_l1In.f ((rd_T77 [a0] 0).f2) 0 (wrap64 (a1 - 1))).bind fun t161 => (if t161 = true then ((spec_l3Two.f ((rd_T77 [a0] 0).f0)).bind fun t162 => (if t162 = true then ((spec_l1In.f ((rd_T77 [a0] 0).f3) 0 (wrap64 (a1 - 1))).bind fun t163 => (if t163 = true then (some 0) else (some 3))) else (some 0))) else (some 3)))) = some r := by rw [if_neg (show ¬ (false = true) by decide)] at H; exact H
                clear H
                have H := H1
                clear H1
                by_cases c22 : x5_12 = true
                · subst c22
                  have H1 : ((spec_l3Two.f ((rd_T77 [a0] 0).f0)).bind fun t158 => (if t158 = true then ((spec_l1In.f ((rd_T77 [a0] 0).f3) 0 (wrap64 (a1 - 1))).bind fun t159 => (if t159 = true then (some 0) else (some 3))) else (some 0))) = some r := by rw [if_pos rfl] at H; exact H
                  clear H
                  have H := H1
                  clear H1
                  replace H := Option.bind_eq_some_iff.mp H
                  obtain ⟨t158, A230, H⟩ := H
                  replace H : (if t158 = true then ((spec_l1In.f ((rd_T77 [a0] 0).f3) 0 (wrap64 (a1 - 1))).bind fun t159 => (if t159 = true then (some 0) else (some 3))) else (some 0)) = some r := H
                  have A23 := Aside0.mk A230
                  clear A230
                  by_cases c24 : t158 = true
                  · subst c24
                    have H1 : ((spec_l1In.f ((rd_T77 [a0] 0).f3) 0 (wrap64 (a1 - 1))).bind fun t159 => (if t159 = true then (some 0) else (some 3))) = some r := by rw [if_pos rfl] at H; exact H
                    clear H
                    have H := H1
                    clear H1
                    replace H := Option.bind_eq_some_iff.mp H
                    obtain ⟨t159, A250, H⟩ := H
                    replace H : (if t159 = true then (some 0) else (some 3)) = some r := H
                    have A25 := Aside0.mk A250
                    clear A250
                    by_cases c26 : t159 = true
                    · subst c26
                      have H1 : (some 0) = some r := by rw [if_pos rfl] at H; exact H
                      clear H
                      have H := H1
                      clear H1
                      obtain rfl := Option.some.inj H
                      have p157 : 0 ≤ (0 : Int) := (by omega)
                      have q157 : 0 < ([a0].length : Int) := (by simp)
                      obtain ⟨ad157, e157, hx157_0, hx157_1, hx157_2, hx157_3⟩ := at_T77 HR0.out 0 p157 q157
                      obtain rfl : adp0 = ad157 := (by injection e157)
                      have qi157 : (0 < [a0].length) = True := eq_true (by omega)
                      (try rw [show ((0 : Int)).toNat = 0 from rfl] at hx157_0)
                      (try rw [show 0 * 4 = 0 from rfl] at hx157_0)
                      (try rw [Addr.add_zero'] at hx157_0)
                      (try rw [show ((0 : Int)).toNat = 0 from rfl] at hx157_1)
                      (try rw [show 0 * 4 = 0 from rfl] at hx157_1)
                      (try rw [Addr.add_zero'] at hx157_1)
                      (try rw [show ((0 : Int)).toNat = 0 from rfl] at hx157_2)
                      (try rw [show 0 * 4 = 0 from rfl] at hx157_2)
                      (try rw [Addr.add_zero'] at hx157_2)
                      (try rw [show ((0 : Int)).toNat = 0 from rfl] at hx157_3)
                      (try rw [show 0 * 4 = 0 from rfl] at hx157_3)
                      (try rw [Addr.add_zero'] at hx157_3)
                      replace p157 := eq_true p157
                      replace q157 := eq_true q157
                      go_wp2_with (first | (go_at_call 118; (with_reducible refine (spec_l3Two.calls ((rd_T77 [a0] 0).f0) true _ A23.out).mono ?_); rintro e w' ⟨rfl, ⟨nd, rfl⟩⟩) | (go_at_call 55; (with_reducible refine (spec_l1In.calls ((rd_T77 [a0] 0).f3) 0 (wrap64 (a1 - 1)) true _ A25.out).mono ?_); rintro e w' ⟨rfl, ⟨nd, rfl⟩⟩))
                      go_ret
                      exact ⟨by first | rfl | (simp; done) | (simp [*]; done), by repeat (first | exact Drawn0.refl _ | apply Drawn0.step)⟩
                    · replace c26 := Bool.eq_false_iff.mpr c26
                      subst c26
                      have H1 : (some 3) = some r := by rw [if_neg (show ¬ (false = true) by decide)] at H; exact H
                      clear H
                      have H := H1
                      clear H1
                      obtain rfl := Option.some.inj H
                      have p157 : 0 ≤ (0 : Int) := (by omega)
                      have q157 : 0 < ([a0].length : Int) := (by simp)
                      obtain ⟨ad157, e157, hx157_0, hx157_1, hx157_2, hx157_3⟩ := at_T77 HR0.out 0 p157 q157
                      obtain rfl : adp0 = ad157 := (by injection e157)
                      have qi157 : (0 < [a0].length) = True := eq_true (by omega)
                      (try rw [show ((0 : Int)).toNat = 0 from rfl] at hx157_0)
                      (try rw [show 0 * 4 = 0 from rfl] at hx157_0)
                      (try rw [Addr.add_zero'] at hx157_0)
                      (try rw [show ((0 : Int)).toNat = 0 from rfl] at hx157_1)
                      (try rw [show 0 * 4 = 0 from rfl] at hx157_1)
                      (try rw [Addr.add_zero'] at hx157_1)
                      (try rw [show ((0 : Int)).toNat = 0 from rfl] at hx157_2)
                      (try rw [show 0 * 4 = 0 from rfl] at hx157_2)
                      (try rw [Addr.add_zero'] at hx157_2)
                      (try rw [show ((0 : Int)).toNat = 0 from rfl] at hx157_3)
                      (try rw [show 0 * 4 = 0 from rfl] at hx157_3)
                      (try rw [Addr.add_zero'] at hx157_3)
                      replace p157 := eq_true p157
                      replace q157 := eq_true q157
                      go_wp2_with (first | (go_at_call 118; (with_reducible refine (spec_l3Two.calls ((rd_T77 [a0] 0).f0) true _ A23.out).mono ?_); rintro e w' ⟨rfl, ⟨nd, rfl⟩⟩) | (go_at_call 55; (with_reducible refine (spec_l1In.calls ((rd_T77 [a0] 0).f3) 0 (wrap64 (a1 - 1)) false _ A25.out).mono ?_); rintro e w' ⟨rfl, ⟨nd, rfl⟩⟩))
                      go_ret
                      exact ⟨by first | rfl | (simp; done) | (simp [*]; done), by repeat (first | exact Drawn0.refl _ | apply Drawn0.step)⟩
                  · replace c24 := Bool.eq_false_iff.mpr c24
                    subst c24
                    have H1 : (some 0) = some r := by rw [if_neg (show ¬ (false = true) by decide)] at H; exact H
                    clear H
                    have H := H1
                    clear H1
                    obtain rfl := Option.some.inj H
                    have p157 : 0 ≤ (0 : Int) := (by omega)
                    have q157 : 0 < ([a0].length : Int) := (by simp)
                    obtain ⟨ad157, e157, hx157_0, hx157_1, hx157_2, hx157_3⟩ := at_T77 HR0.out 0 p157 q157
                    obtain rfl : adp0 = ad157 := (by injection e157)
                    have qi157 : (0 < [a0].length) = True := eq_true (by omega)
                    (try rw [show ((0 : Int)).toNat = 0 from rfl] at hx157_0)
                    (try rw [show 0 * 4 = 0 from rfl] at hx157_0)
                    (try rw [Addr.add_zero'] at hx157_0)
                    (try rw [show ((0 : Int)).toNat = 0 from rfl] at hx157_1)
                    (try rw [show 0 * 4 = 0 from rfl] at hx157_1)
                    (try rw [Addr.add_zero'] at hx157_1)
                    (try rw [show ((0 : Int)).toNat = 0 from rfl] at hx157_2)
                    (try rw [show 0 * 4 = 0 from rfl] at hx157_2)
                    (try rw [Addr.add_zero'] at hx157_2)
                    (try rw [show ((0 : Int)).toNat = 0 from rfl] at hx157_3)
                    (try rw [show 0 * 4 = 0 from rfl] at hx157_3)
                    (try rw [Addr.add_zero'] at hx157_3)
                    replace p157 := eq_true p157
                    replace q157 := eq_true q157
                    go_wp2_with (first | (go_at_call 118; (with_reducible refine (spec_l3Two.calls ((rd_T77 [a0] 0).f0) false _ A23.out).mono ?_); rintro e w' ⟨rfl, ⟨nd, rfl⟩⟩))
                    go_ret
                    exact ⟨by first | rfl | (simp; done) | (simp [*]; done), by repeat (first | exact Drawn0.refl _ | apply Drawn0.step)⟩
                · replace c22 := Bool.eq_false_iff.mpr c22
                  subst c22
                  have H1 : ((spec_l1In.f ((rd_T77 [a0] 0).f2) 0 (wrap64 (a1 - 1))).bind fun t161 => (if t161 = true then ((spec_l3Two.f ((rd_T77 [a0] 0).f0)).bind fun t162 => (if t162 = true then ((spec_l1In.f ((rd_T77 [a0] 0).f3) 0 (wrap64 (a1 - 1))).bind fun t163 => (if t163 = true then (some 0) else (some 3))) else (some 0))) else (some 3))) = some r := by rw [if_neg (show ¬ (false = true) by decide)] at H; exact H
                  clear H
                  have H := H1
                  clear H1
                  replace H := Option.bind_eq_some_iff.mp H
                  obtain ⟨t161, A270, H⟩ := H
                  replace H : (if t161 = true then ((spec_l3Two.f ((rd_T77 [a0] 0).f0)).bind fun t162 => (if t162 = true then ((spec_l1In.f ((rd_T77 [a0] 0).f3) 0 (wrap64 (a1 - 1))).bind fun t163 => (if t163 = true then (some 0) else (some 3))) else (some 0))) else (some 3)) = some r := H
                  have A27 := Aside0.mk A270
                  clear A270
                  by_cases c28 : t161 = true
                  · subst c28
                    have H1 : ((spec_l3Two.f ((rd_T77 [a0] 0).f0)).bind fun t162 => (if t162 = true then ((spec_l1In.f ((rd_T77 [a0] 0).f3) 0 (wrap64 (a1 - 1))).bind fun t163 => (if t163 = true then (some 0) else (some 3))) else (some 0))) = some r := by rw [if_pos rfl] at H; exact H
                    clear H
                    have H := H1
                    clear H1
                    replace H := Option.bind_eq_some_iff.mp H
                    obtain ⟨t162, A290, H⟩ := H
                    replace H : (if t162 = true then ((spec_l1In.f ((rd_T77 [a0] 0).f3) 0 (wrap64 (a1 - 1))).bind fun t163 => (if t163 = true then (some 0) else (some 3))) else (some 0)) = some r := H
                    have A29 := Aside0.mk A290
                    clear A290
                    by_cases c30 : t162 = true
                    · subst c30
                      have H1 : ((spec_l1In.f ((rd_T77 [a0] 0).f3) 0 (wrap64 (a1 - 1))).bind fun t163 => (if t163 = true then (some 0) else (some 3))) = some r := by rw [if_pos rfl] at H; exact H
                      clear H
                      have H := H1
                      clear H1
                      replace H := Option.bind_eq_some_iff.mp H
                      obtain ⟨t163, A310, H⟩ := H
                      replace H : (if t163 = true then (some 0) else (some 3)) = some r := H
                      have A31 := Aside0.mk A310
                      clear A310
                      by_cases c32 : t163 = true
                      · subst c32
                        have H1 : (some 0) = some r := by rw [if_pos rfl] at H; exact H
                        clear H
                        have H := H1
                        clear H1
                        obtain rfl := Option.some.inj H
                        have p160 : 0 ≤ (0 : Int) := (by omega)
                        have q160 : 0 < ([a0].length : Int) := (by simp)
                        obtain ⟨ad160, e160, hx160_0, hx160_1, hx160_2, hx160_3⟩ := at_T77 HR0.out 0 p160 q160
                        obtain rfl : adp0 = ad160 := (by injection e160)
                        have qi160 : (0 < [a0].length) = True := eq_true (by omega)
                        (try rw [show ((0 : Int)).toNat = 0 from rfl] at hx160_0)
                        (try rw [show 0 * 4 = 0 from rfl] at hx160_0)
                        (try rw [Addr.add_zero'] at hx160_0)
                        (try rw [show ((0 : Int)).toNat = 0 from rfl] at hx160_1)
                        (try rw [show 0 * 4 = 0 from rfl] at hx160_1)
                        (try rw [Addr.add_zero'] at hx160_1)
                        (try rw [show ((0 : Int)).toNat = 0 from rfl] at hx160_2)
                        (try rw [show 0 * 4 = 0 from rfl] at hx160_2)
                        (try rw [Addr.add_zero'] at hx160_2)
                        (try rw [show ((0 : Int)).toNat = 0 from rfl] at hx160_3)
                        (try rw [show 0 * 4 = 0 from rfl] at hx160_3)
                        (try rw [Addr.add_zero'] at hx160_3)
                        replace p160 := eq_true p160
                        replace q160 := eq_true q160
                        go_wp2_with (first | (go_at_call 55; (with_reducible refine (spec_l1In.calls ((rd_T77 [a0] 0).f2) 0 (wrap64 (a1 - 1)) true _ A27.out).mono ?_); rintro e w' ⟨rfl, ⟨nd, rfl⟩⟩) | (go_at_call 118; (with_reducible refine (spec_l3Two.calls ((rd_T77 [a0] 0).f0) true _ A29.out).mono ?_); rintro e w' ⟨rfl, ⟨nd, rfl⟩⟩) | (go_at_call 55; (with_reducible refine (spec_l1In.calls ((rd_T77 [a0] 0).f3) 0 (wrap64 (a1 - 1)) true _ A31.out).mono ?_); rintro e w' ⟨rfl, ⟨nd, rfl⟩⟩))
                        go_ret
                        exact ⟨by first | rfl | (simp; done) | (simp [*]; done), by repeat (first | exact Drawn0.refl _ | apply Drawn0.step)⟩
                      · replace c32 := Bool.eq_false_iff.mpr c32
                        subst c32
                        have H1 : (some 3) = some r := by rw [if_neg (show ¬ (false = true) by decide)] at H; exact H
                        clear H
                        have H := H1
                        clear H1
                        obtain rfl := Option.some.inj H
                        have p160 : 0 ≤ (0 : Int) := (by omega)
                        have q160 : 0 < ([a0].length : Int) := (by simp)
                        obtain ⟨ad160, e160, hx160_0, hx160_1, hx160_2, hx160_3⟩ := at_T77 HR0.out 0 p160 q160
                        obtain rfl : adp0 = ad160 := (by injection e160)
                        have qi160 : (0 < [a0].length) = True := eq_true (by omega)
                        (try rw [show ((0 : Int)).toNat = 0 from rfl] at hx160_0)
                        (try rw [show 0 * 4 = 0 from rfl] at hx160_0)
                        (try rw [Addr.add_zero'] at hx160_0)
                        (try rw [show ((0 : Int)).toNat = 0 from rfl] at hx160_1)
                        (try rw [show 0 * 4 = 0 from rfl] at hx160_1)
                        (try rw [Addr.add_zero'] at hx160_1)
                        (try rw [show ((0 : Int)).toNat = 0 from rfl] at hx160_2)
                        (try rw [show 0 * 4 = 0 from rfl] at hx160_2)
                        (try rw [Addr.add_zero'] at hx160_2)
                        (try rw [show ((0 : Int)).toNat = 0 from rfl] at hx160_3)
                        (try rw [show 0 * 4 = 0 from rfl] at hx160_3)
                        (try rw [Addr.add_zero'] at hx160_3)
                        replace p160 := eq_true p160
                        replace q160 := eq_true q160
                        go_wp2_with (first | (go_at_call 55; (with_reducible refine (spec_l1In.calls ((rd_T77 [a0] 0).f2) 0 (wrap64 (a1 - 1)) true _ A27.out).mono ?_); rintro e w' ⟨rfl, ⟨nd, rfl⟩⟩) | (go_at_call 118; (with_reducible refine (spec_l3Two.calls ((rd_T77 [a0] 0).f0) true _ A29.out).mono ?_); rintro e w' ⟨rfl, ⟨nd, rfl⟩⟩) | (go_at_call 55; (with_reducible refine (spec_l1In.calls ((rd_T77 [a0] 0).f3) 0 (wrap64 (a1 - 1)) false _ A31.out).mono ?_); rintro e w' ⟨rfl, ⟨nd, rfl⟩⟩))
                        go_ret
                        exact ⟨by first | rfl | (simp; done) | (simp [*]; done), by repeat (first | exact Drawn0.refl _ | apply Drawn0.step)⟩
                    · replace c30 := Bool.eq_false_iff.mpr c30
                      subst c30
                      have H1 : (some 0) = some r := by rw [if_neg (show ¬ (false = true) by decide)] at H; exact H
                      clear H
                      have H := H1
                      clear H1
                      obtain rfl := Option.some.inj H
                      have p160 : 0 ≤ (0 : Int) := (by omega)
                      have q160 : 0 < ([a0].length : Int) := (by simp)
                      obtain ⟨ad160, e160, hx160_0, hx160_1, hx160_2, hx160_3⟩ := at_T77 HR0.out 0 p160 q160
                      obtain rfl : adp0 = ad160 := (by injection e160)
                      have qi160 : (0 < [a0].length) = True := eq_true (by omega)
                      (try rw [show ((0 : Int)).toNat = 0 from rfl] at hx160_0)
                      (try rw [show 0 * 4 = 0 from rfl] at hx160_0)
                      (try rw [Addr.add_zero'] at hx160_0)
                      (try rw [show ((0 : Int)).toNat = 0 from rfl] at hx160_1)
                      (try rw [show 0 * 4 = 0 from rfl] at hx160_1)
                      (try rw [Addr.add_zero'] at hx160_1)
                      (try rw [show ((0 : Int)).toNat = 0 from rfl] at hx160_2)
                      (try rw [show 0 * 4 = 0 from rfl] at hx160_2)
                      (try rw [Addr.add_zero'] at hx160_2)
                      (try rw [show ((0 : Int)).toNat = 0 from rfl] at hx160_3)
                      (try rw [show 0 * 4 = 0 from rfl] at hx160_3)
                      (try rw [Addr.add_zero'] at hx160_3)
                      replace p160 := eq_true p160
                      replace q160 := eq_true q160
                      go_wp2_with (first | (go_at_call 55; (with_reducible refine (spec_l1In.calls ((rd_T77 [a0] 0).f2) 0 (wrap64 (a1 - 1)) true _ A27.out).mono ?_); rintro e w' ⟨rfl, ⟨nd, rfl⟩⟩) | (go_at_call 118; (with_reducible refine (spec_l3Two.calls ((rd_T77 [a0] 0).f0) false _ A29.out).mono ?_); rintro e w' ⟨rfl, ⟨nd, rfl⟩⟩))
                      go_ret
                      exact ⟨by first | rfl | (simp; done) | (simp [*]; done), by repeat (first | exact Drawn0.refl _ | apply Drawn0.step)⟩
                  · replace c28 := Bool.eq_false_iff.mpr c28
                    subst c28
                    have H1 : (some 3) = some r := by rw [if_neg (show ¬ (false = true) by decide)] at H; exact H
                    clear H
                    have H := H1
                    clear H1
                    obtain rfl := Option.some.inj H
                    have p160 : 0 ≤ (0 : Int) := (by omega)
                    have q160 : 0 < ([a0].length : Int) := (by simp)
                    obtain ⟨ad160, e160, hx160_0, hx160_1, hx160_2, hx160_3⟩ := at_T77 HR0.out 0 p160 q160
                    obtain rfl : adp0 = ad160 := (by injection e160)
                    have qi160 : (0 < [a0].length) = True := eq_true (by omega)
                    (try rw [show ((0 : Int)).toNat = 0 from rfl] at hx160_0)
                    (try rw [show 0 * 4 = 0 from rfl] at hx160_0)
                    (try rw [Addr.add_zero'] at hx160_0)
                    (try rw [show ((0 : Int)).toNat = 0 from rfl] at hx160_1)
                    (try rw [show 0 * 4 = 0 from rfl] at hx160_1)
                    (try rw [Addr.add_zero'] at hx160_1)
                    (try rw [show ((0 : Int)).toNat = 0 from rfl] at hx160_2)
                    (try rw [show 0 * 4 = 0 from rfl] at hx160_2)
                    (try rw [Addr.add_zero'] at hx160_2)
                    (try rw [show ((0 : Int)).toNat = 0 from rfl] at hx160_3)
                    (try rw [show 0 * 4 = 0 from rfl] at hx160_3)
                    (try rw [Addr.add_zero'] at hx160_3)
                    replace p160 := eq_true p160
                    replace q160 := eq_true q160
                    go_wp2_with (first | (go_at_call 55; (with_reducible refine (spec_l1In.calls ((rd_T77 [a0] 0).f2) 0 (wrap64 (a1 - 1)) false _ A27.out).mono ?_); rintro e w' ⟨rfl, ⟨nd, rfl⟩⟩))
                    go_ret
                    exact ⟨by first | rfl | (simp; done) | (simp [*]; done), by repeat (first | exact Drawn0.refl _ | apply Drawn0.step)⟩
  · replace c4 := Bool.eq_false_iff.mpr c4
    subst c4
    have H1 : (some 1) = some r := by rw [if_neg (show ¬ (false = true) by decide)] at H; exact H
    clear H
    have H := H1
    clear H1
    obtain rfl := Option.some.inj H
    have p151 : 0 ≤ (0 : Int) := (by omega)
    have q151 : 0 < ([a0].length : Int) := (by simp)
    obtain ⟨ad151, e151, hx151_0, hx151_1, hx151_2, hx151_3⟩ := at_T77 HR0.out 0 p151 q151
    obtain rfl : adp0 = ad151 := (by injection e151)
    have qi151 : (0 < [a0].length) = True := eq_true (by omega)
    (try rw [show ((0 : Int)).toNat = 0 from rfl] at hx151_0)
    (try rw [show 0 * 4 = 0 from rfl] at hx151_0)
    (try rw [Addr.add_zero'] at hx151_0)
    (try rw [show ((0 : Int)).toNat = 0 from rfl] at hx151_1)
    (try rw [show 0 * 4 = 0 from rfl] at hx151_1)
    (try rw [Addr.add_zero'] at hx151_1)
    (try rw [show ((0 : Int)).toNat = 0 from rfl] at hx151_2)
    (try rw [show 0 * 4 = 0 from rfl] at hx151_2)
    (try rw [Addr.add_zero'] at hx151_2)
    (try rw [show ((0 : Int)).toNat = 0 from rfl] at hx151_3)
    (try rw [show 0 * 4 = 0 from rfl] at hx151_3)
    (try rw [Addr.add_zero'] at hx151_3)
    replace p151 := eq_true p151
    replace q151 := eq_true q151
    go_enter Try.func99, Try.ntmps99
    go_wp2_with (first | ((with_reducible refine gate_callee (f := 55) rfl ?_); refine goesL_ (some 10) rfl rfl Try.func55 (by kernel_rfl) rfl #[.int .i64 ((rd_T77 [a0] 0).f0), .int .i64 1, .int .i64 10] rfl (by (try simp only [List.map_toArray, List.map_cons, List.map_nil]); first | done | rfl | (simp only [List.length_drop, List.length_take]; rfl)) ?_; (with_reducible refine (spec_l1In.calls ((rd_T77 [a0] 0).f0) 1 10 false _ A3.out).mono ?_); rintro e w' ⟨rfl, ⟨nd, rfl⟩⟩; refine ⟨_, rfl, ?_⟩))
    go_ret
    exact ⟨by first | rfl | (simp; done) | (simp [*]; done), by repeat (first | exact Drawn0.refl _ | apply Drawn0.step)⟩

/-! ### spec_l3Walk: function 100 -/
mutual
def spec_l3Walk.j0 : Nat → List (S77) → Int → List Int → Option (List Int)
  | 0, _, _, _ => none
  | k + 1, x0, x1, x2 => if 0 ≤ x1 then (if x1 < (x0.length : Int) then ((spec_l3Two.f ((rd_T77 x0 x1).f0)).bind fun t170 => (if t170 = true then ((spec_l3Walk.f k x0 ((rd_T77 x0 x1).f3) x2).bind fun t172 => (if t172.length < 17592186044416 then (some (t172 ++ [x1])) else (none))) else (if x2.length < 17592186044416 then (some (x2 ++ [x1])) else (none)))) else (none)) else (none)
def spec_l3Walk.f : Nat → List (S77) → Int → List Int → Option (List Int)
  | 0, _, _, _ => none
  | k + 1, l0, a1, l2 => if (l2.length : Int) > 16 then (some l2) else (if 0 ≤ a1 then (if a1 < (l0.length : Int) then (if ((rd_T77 l0 a1).f0) > 2 then ((spec_l3Walk.f k l0 ((rd_T77 l0 a1).f2) l2).bind fun t166 => (spec_l3Walk.j0 k l0 a1 t166)) else (spec_l3Walk.j0 k l0 a1 l2)) else (none)) else (none))
end
theorem spec_l3Walk.mono_l : ∀ k, (∀ y0 y1 y2, LeO (spec_l3Walk.f k y0 y1 y2) (spec_l3Walk.f (k + 1) y0 y1 y2)) ∧ (∀ y0 y1 y2, LeO (spec_l3Walk.j0 k y0 y1 y2) (spec_l3Walk.j0 (k + 1) y0 y1 y2))
  | 0 => ⟨fun _ _ _ r h => by simp [spec_l3Walk.f] at h, fun _ _ _ r h => by simp [spec_l3Walk.j0] at h⟩
  | k + 1 => by
    obtain ⟨ih0, ih1⟩ := spec_l3Walk.mono_l k
    refine ⟨?_, ?_⟩
    · intro y0 y1 y2
      unfold spec_l3Walk.f
      repeat' first
      | (with_reducible exact ih0 _ _ _)
      | (with_reducible exact ih1 _ _ _)
      | (with_reducible exact LeO.refl _)
      | (with_reducible exact LeO.none _)
      | (with_reducible refine LeO.ite ?_ ?_)
      | (with_reducible refine LeO.bind ?_ (fun _ => ?_))
      | exact ih0 _ _ _
      | exact ih1 _ _ _
      | exact LeO.none _
      | refine LeO.ite ?_ ?_
      | refine LeO.bind ?_ (fun _ => ?_)
    · intro y0 y1 y2
      unfold spec_l3Walk.j0
      repeat' first
      | (with_reducible exact ih0 _ _ _)
      | (with_reducible exact ih1 _ _ _)
      | (with_reducible exact LeO.refl _)
      | (with_reducible exact LeO.none _)
      | (with_reducible refine LeO.ite ?_ ?_)
      | (with_reducible refine LeO.bind ?_ (fun _ => ?_))
      | exact ih0 _ _ _
      | exact ih1 _ _ _
      | exact LeO.none _
      | refine LeO.ite ?_ ?_
      | refine LeO.bind ?_ (fun _ => ?_)
theorem spec_l3Walk.mono : ∀ a0 a1 a2 k, LeO (spec_l3Walk.f k a0 a1 a2) (spec_l3Walk.f (k + 1) a0 a1 a2) := by
  intro a0 a1 a2 k
  obtain ⟨ih0, ih1⟩ := spec_l3Walk.mono_l k
  exact ih0 a0 a1 a2
set_option maxHeartbeats 8000000 in
set_option maxRecDepth 100000 in
theorem spec_l3Walk.calls (k : Nat) : ∀ (A0 : Option Addr) (c0 : Nat) (l0 : List (S77)) (a1 : Int) (P2_ : Nat → Prop) (u9000_ : Value) (l2 : List Int) (r : List Int) (w0 w : World) (hB : Below w0.heap.size w0 w) (hr0 : ∀ W_, Kept w W_ (fun k_ => P2_ k_) → Kd.C k77 W_ A0 l0.length l0) (hc0 : l0.length ≤ c0) (ho2 : Kd.R (Kd.int .i64) 2 w w0.heap.size P2_ u9000_ l2) (h : spec_l3Walk.f k l0 a1 l2 = some r),
    Calls Try.prog 100 #[.slice A0 l0.length c0, .int .i64 a1, u9000_] w fun e w' => ∃ v0_ : Value, e = .returned (v0_) ∧ Kd.R (Kd.int .i64) 2 w' w0.heap.size (fun k_ => (P2_ k_ ∨ w.heap.size ≤ k_)) v0_ r ∧ Below w0.heap.size w0 w' ∧ Kept w w' (fun k_ => P2_ k_) := by
  induction k using Nat.strongRecOn with
  | _ k ih =>
  intro A0 c0 l0 a1 P2_ u9000_ l2 r w0 w hB hr0 hc0 ho2 h
  cases k with
  | zero => exact absurd h (by simp [spec_l3Walk.f])
  | succ k =>
  simp only [spec_l3Walk.f] at h
  have HR0 := Aside0.mk hr0
  have HC0 := Aside0.mk hc0
  clear hr0 hc0
  have HO2 := Aside0.mk (show Kd.R (Kd.int .i64) 2 w w0.heap.size (fun k_ => (P2_ k_ ∨ w.heap.size ≤ k_)) u9000_ l2 from Kd.R_mono ho2 (fun k_ hk => (.inl hk)))
  have HK := Aside0.mk (Kept.refl w (fun k_ => P2_ k_))
  have HW0 := Aside0.mk hB.size
  have HB := Aside0.mk hB
  clear hB
  have H : (if (l2.length : Int) > 16 then (some l2) else (if 0 ≤ a1 then (if a1 < (l0.length : Int) then (if ((rd_T77 l0 a1).f0) > 2 then ((spec_l3Walk.f k l0 ((rd_T77 l0 a1).f2) l2).bind fun t166 => (spec_l3Walk.j0 k l0 a1 t166)) else (spec_l3Walk.j0 k l0 a1 l2)) else (none)) else (none))) = some r := h
  clear h
  by_cases c4 : (l2.length : Int) > 16
  · rw [if_pos c4] at H
    have c4b0 : decide (16 < (l2.length : Int)) = true := decide_eq_true c4
    have c4b1 : decide (16 < l2.length) = true := decide_eq_true (by omega)
    clear c4
    obtain rfl := Option.some.inj H
    obtain ⟨Ao5, co5, eo5⟩ := Kd.R_slice HO2.out
    subst eo5
    go_enter Try.func100, Try.ntmps100
    go_wp2
    go_ret
    exact ⟨_, by first | rfl | (simp [errW_none, errW_some] <;> rfl) | (simp [*, errW_none, errW_some] <;> rfl), by (with_reducible repeat (first | apply Kd.R_alloc | apply Kd.R_drewN | apply Kd.R_drew)); exact HO2.out, by repeat (first | (with_reducible first | exact HB.out | apply below_alloc | apply pw_below_drewN | apply below_drew1) | exact HB.out), by repeat (first | (with_reducible first | exact HK.out | apply Kept.alloc | apply Kept.drewN | apply Kept.drew) | exact HK.out)⟩
  · rw [if_neg c4] at H
    have c4b0 : decide (16 < (l2.length : Int)) = false := decide_eq_false c4
    have c4b1 : decide (16 < l2.length) = false := decide_eq_false (by omega)
    clear c4
    by_cases c6 : 0 ≤ a1
    · rw [if_pos c6] at H
      have c6b0 : decide (0 ≤ a1) = true := decide_eq_true c6
      clear c6
      by_cases c7 : a1 < (l0.length : Int)
      · rw [if_pos c7] at H
        have c7b0 : decide (a1 < (l0.length : Int)) = true := decide_eq_true c7
        clear c7
        have HC8 := Aside0.mk H
        clear H
        obtain ⟨Ao9, co9, eo9⟩ := Kd.R_slice HO2.out
        subst eo9
        have p164 : 0 ≤ (a1 : Int) := of_decide_eq_true (by first | (with_reducible assumption) | assumption)
        have q164 : a1 < (l0.length : Int) := of_decide_eq_true (by first | (with_reducible assumption) | assumption)
        obtain ⟨ad164, e164, hx164_0, hx164_1, hx164_2, hx164_3⟩ := at_T77 (Kd.C_kept_now HR0.out HK.out) a1 p164 q164
        cases e164
        replace p164 := eq_true p164
        replace q164 := eq_true q164
        go_enter Try.func100, Try.ntmps100
        go_upto_if 16 with (fail)
        go_cut [2] (fun v2 wc => ∃ (kq : Nat) (x2_7 : List Int), Aside0 (spec_l3Walk.j0 kq l0 a1 x2_7 = some r) ∧ Aside0 (kq ≤ k) ∧ Aside0 (Kd.R (Kd.int .i64) 2 wc w0.heap.size (fun k_ => (P2_ k_ ∨ w.heap.size ≤ k_)) v2 x2_7) ∧ Aside0 (Kept w wc (fun k_ => P2_ k_)) ∧ Aside0 (Below w0.heap.size w0 wc))
        case first =>
          have H := HC8.out
          clear HC8
          by_cases c10 : ((rd_T77 l0 a1).f0) > 2
          · rw [if_pos c10] at H
            have c10b0 : decide (2 < ((rd_T77 l0 a1).f0)) = true := decide_eq_true c10
            clear c10
            (first | rw [c10b0] | (simp only [i64_w, i32_w]; rw [c10b0]) | skip)
            replace H := Option.bind_eq_some_iff.mp H
            obtain ⟨t166, A110, H⟩ := H
            replace H : (spec_l3Walk.j0 k l0 a1 t166) = some r := H
            have A11 := Aside0.mk A110
            clear A110
            have H' := Aside0.mk H
            clear H
            have p165 : 0 ≤ (a1 : Int) := of_decide_eq_true (by first | (with_reducible assumption) | assumption)
            have q165 : a1 < (l0.length : Int) := of_decide_eq_true (by first | (with_reducible assumption) | assumption)
            obtain ⟨ad165, e165, hx165_0, hx165_1, hx165_2, hx165_3⟩ := at_T77 (Kd.C_kept_now HR0.out HK.out) a1 p165 q165
            obtain rfl : ad164 = ad165 := (by injection e165)
            replace p165 := eq_true p165
            replace q165 := eq_true q165
            go_wp2_with (first | ((with_reducible refine gate_callee (f := 100) rfl ?_); refine goesL_ (some 24) rfl rfl Try.func100 (by kernel_rfl) rfl #[.slice (some ad164) l0.length c0, .int .i64 ((rd_T77 l0 a1).f2), .slice Ao9 l2.length co9] rfl (by (try simp only [List.map_toArray, List.map_cons, List.map_nil]); first | done | rfl | (simp only [List.length_drop, List.length_take]; rfl)) ?_; (with_reducible refine (ih k (by omega) _ _ l0 ((rd_T77 l0 a1).f2) (fun k_ => some k_ = (.slice Ao9 l2.length co9 : Value).ownBlock) (.slice Ao9 l2.length co9) l2 t166 w0 _ ?side1 ?side2 ?side3 ?side4 A11.out).mono ?_); (case side1 => repeat (first | (with_reducible first | exact HB.out | apply below_alloc | apply pw_below_drewN | apply below_drew1) | exact HB.out)); (case side2 => exact Kd.C_kept_call HR0.out (by repeat (first | (with_reducible first | exact HK.out | apply Kept.alloc | apply Kept.drewN | apply Kept.drew) | exact HK.out)) (fun k_ hs_ => (fun e_ => (HO2.out.1 k_ e_.symm)) hs_)); (case side3 => exact HC0.out); (case side4 => exact Kd.R_tight rfl HO2.out); rintro e w12 ⟨v167, rfl, ho0, hb, hkp⟩; refine ⟨_, rfl, ?_⟩; have n0_ := Aside0.mk (Kd.R_mono (ok' := fun k_ => (P2_ k_ ∨ w.heap.size ≤ k_)) ho0 (fun k_ hk_ => Or.elim hk_ (fun hs_ => (HO2.out.1 k_ (hs_).symm)) (fun hn_ => (.inr (Nat.le_trans (by first | exact HK.out.1 | exact (show Kept w _ (fun k_ => P2_ k_) from by repeat (first | (with_reducible first | exact HK.out | apply Kept.alloc | apply Kept.drewN | apply Kept.drew) | exact HK.out)).1) hn_))))); have n1_ := Aside0.mk (Kept.then_ (S := (fun k_ => P2_ k_)) (by repeat (first | (with_reducible first | exact HK.out | apply Kept.alloc | apply Kept.drewN | apply Kept.drew) | exact HK.out)) hkp (fun k_ hs_ => (fun e_ => (HO2.out.1 k_ e_.symm)) hs_)); have n2_ := Aside0.mk (hb); clear HK; clear HB; clear HO2; have HO168 := n0_; have HK := n1_; have HB := n2_; clear n0_ n1_ n2_; (try clear hb); (try clear hkp); (try clear ho0)))
            go_meet
            case rel => exact ⟨_, (t166), H', ⟨by first | omega | exact Nat.le_refl _⟩, ⟨by (with_reducible repeat (first | apply Kd.R_alloc | apply Kd.R_drewN | apply Kd.R_drew)); exact HO168.out⟩, ⟨by repeat (first | (with_reducible first | exact HK.out | apply Kept.alloc | apply Kept.drewN | apply Kept.drew) | exact HK.out)⟩, ⟨by repeat (first | (with_reducible first | exact HB.out | apply below_alloc | apply pw_below_drewN | apply below_drew1) | exact HB.out)⟩⟩
          · rw [if_neg c10] at H
            have c10b0 : decide (2 < ((rd_T77 l0 a1).f0)) = false := decide_eq_false c10
            clear c10
            (first | rw [c10b0] | (simp only [i64_w, i32_w]; rw [c10b0]) | skip)
            have H' := Aside0.mk H
            clear H
            go_wp2
            go_meet
            case rel => exact ⟨_, (l2), H', ⟨by first | omega | exact Nat.le_refl _⟩, ⟨by (with_reducible repeat (first | apply Kd.R_alloc | apply Kd.R_drewN | apply Kd.R_drew)); exact HO2.out⟩, ⟨by repeat (first | (with_reducible first | exact HK.out | apply Kept.alloc | apply Kept.drewN | apply Kept.drew) | exact HK.out)⟩, ⟨by repeat (first | (with_reducible first | exact HB.out | apply below_alloc | apply pw_below_drewN | apply below_drew1) | exact HB.out)⟩⟩
        case rest =>
          clear HC8
          try clear c1
          try clear p1
          try clear q1
          try clear hx1
          try clear p2
          try clear c4
          try clear c4b0
          try clear c4b1
          try clear c6
          try clear c6b0
          try clear c7
          try clear c7b0
          try clear c10
          try clear c10b0
          try clear hx164_0
          try clear hx164_1
          try clear hx164_2
          try clear hx164_3
          try clear hx165_0
          try clear hx165_1
          try clear hx165_2
          try clear hx165_3
          try clear p164
          try clear p165
          try clear q164
          try clear q165
          obtain ⟨kq, x2_7, HA, HJ7, HO_2, HK, HB⟩ := hcut
          cases kq with
          | zero => exact absurd HA.out (by simp [spec_l3Walk.j0])
          | succ kj7 =>
            have H := HA.out
            clear HA
            simp only [spec_l3Walk.j0] at H
            by_cases c13 : 0 ≤ a1
            · rw [if_pos c13] at H
              have c13b0 : decide (0 ≤ a1) = true := decide_eq_true c13
              clear c13
              by_cases c14 : a1 < (l0.length : Int)
              · rw [if_pos c14] at H
                have c14b0 : decide (a1 < (l0.length : Int)) = true := decide_eq_true c14
                clear c14
                replace H := Option.bind_eq_some_iff.mp H
                obtain ⟨t170, A150, H⟩ := H
                replace H : (if t170 = true then ((spec_l3Walk.f kj7 l0 ((rd_T77 l0 a1).f3) x2_7).bind fun t172 => (if t172.length < 17592186044416 then (some (t172 ++ [a1])) else (none))) else (if x2_7.length < 17592186044416 then (some (x2_7 ++ [a1])) else (none))) = some r := H
                have A15 := Aside0.mk A150
                clear A150
                by_cases c16 : t170 = true
                · subst c16
                  have H1 : ((spec_l3Walk.f kj7 l0 ((rd_T77 l0 a1).f3) x2_7).bind fun t172 => (if t172.length < 17592186044416 then (some (t172 ++ [a1])) else (none))) = some r := by rw [if_pos rfl] at H; exact H
                  clear H
                  have H := H1
                  clear H1
                  replace H := Option.bind_eq_some_iff.mp H
                  obtain ⟨t172, A170, H⟩ := H
                  replace H : (if t172.length < 17592186044416 then (some (t172 ++ [a1])) else (none)) = some r := H
                  have A17 := Aside0.mk A170
                  clear A170
                  by_cases c18 : t172.length < 17592186044416
                  · rw [if_pos c18] at H
                    have LMc18 := Aside0.mk c18
                    clear c18
                    obtain ⟨y175, hy175⟩ : ∃ y_ : List Int, y_ = (t172 ++ [a1]) := ⟨_, rfl⟩
                    replace H : (some y175) = some r := by first | (rw [hy175]; with_reducible exact H) | (have H2_ := (Option.bind_some _ _).symm.trans H; rw [hy175]; with_reducible exact H2_) | (have H2_ := (Option.bind_some _ _).symm.trans H; with_reducible exact H2_) | with_reducible exact H | (rw [hy175]; exact H) | exact H
                    have Ny175 := Aside0.mk hy175
                    clear hy175
                    obtain rfl := Option.some.inj H
                    have p169 : 0 ≤ (a1 : Int) := of_decide_eq_true (by first | (with_reducible assumption) | assumption)
                    have q169 : a1 < (l0.length : Int) := of_decide_eq_true (by first | (with_reducible assumption) | assumption)
                    obtain ⟨ad169, e169, hx169_0, hx169_1, hx169_2, hx169_3⟩ := at_T77 (Kd.C_kept_now HR0.out HK.out) a1 p169 q169
                    obtain rfl : ad164 = ad169 := (by injection e169)
                    replace p169 := eq_true p169
                    replace q169 := eq_true q169
                    go_wp2_with (first | ((with_reducible refine gate_callee (f := 118) rfl ?_); refine goesL_ (some 30) rfl rfl Try.func118 (by kernel_rfl) rfl #[.int .i64 ((rd_T77 l0 a1).f0)] rfl (by (try simp only [List.map_toArray, List.map_cons, List.map_nil]); first | done | rfl | (simp only [List.length_drop, List.length_take]; rfl)) ?_; (with_reducible refine (spec_l3Two.calls ((rd_T77 l0 a1).f0) true _ A15.out).mono ?_); rintro e w' ⟨rfl, ⟨nd, rfl⟩⟩; refine ⟨_, rfl, ?_⟩; have p171 : 0 ≤ (a1 : Int) := of_decide_eq_true (by first | (with_reducible assumption) | assumption); have q171 : a1 < (l0.length : Int) := of_decide_eq_true (by first | (with_reducible assumption) | assumption); obtain ⟨ad171, e171, hx171_0, hx171_1, hx171_2, hx171_3⟩ := at_T77 (Kd.C_kept_now HR0.out HK.out) a1 p171 q171; obtain rfl : ad164 = ad171 := (by injection e171); replace p171 := eq_true p171; replace q171 := eq_true q171; obtain ⟨Ao19, co19, eo19⟩ := Kd.R_slice HO_2.out; subst eo19) | ((with_reducible refine gate_callee (f := 100) rfl ?_); refine goesL_ (some 38) rfl rfl Try.func100 (by kernel_rfl) rfl #[.slice (some ad164) l0.length c0, .int .i64 ((rd_T77 l0 a1).f3), .slice Ao19 x2_7.length co19] rfl (by (try simp only [List.map_toArray, List.map_cons, List.map_nil]); first | done | rfl | (simp only [List.length_drop, List.length_take]; rfl)) ?_; (with_reducible refine (ih kj7 (by have := HJ7.out; omega) _ _ l0 ((rd_T77 l0 a1).f3) (fun k_ => some k_ = (.slice Ao19 x2_7.length co19 : Value).ownBlock) (.slice Ao19 x2_7.length co19) x2_7 t172 w0 _ ?side1 ?side2 ?side3 ?side4 A17.out).mono ?_); (case side1 => repeat (first | (with_reducible first | exact HB.out | apply below_alloc | apply pw_below_drewN | apply below_drew1) | exact HB.out)); (case side2 => exact Kd.C_kept_call HR0.out (by repeat (first | (with_reducible first | exact HK.out | apply Kept.alloc | apply Kept.drewN | apply Kept.drew) | exact HK.out)) (fun k_ hs_ => (fun e_ => (HO_2.out.1 k_ e_.symm)) hs_)); (case side3 => exact HC0.out); (case side4 => exact Kd.R_tight rfl HO_2.out); rintro e w20 ⟨v173, rfl, ho0, hb, hkp⟩; refine ⟨_, rfl, ?_⟩; have n0_ := Aside0.mk (Kd.R_mono (ok' := fun k_ => (P2_ k_ ∨ w.heap.size ≤ k_)) ho0 (fun k_ hk_ => Or.elim hk_ (fun hs_ => (HO_2.out.1 k_ (hs_).symm)) (fun hn_ => (.inr (Nat.le_trans (by first | exact HK.out.1 | exact (show Kept w _ (fun k_ => P2_ k_) from by repeat (first | (with_reducible first | exact HK.out | apply Kept.alloc | apply Kept.drewN | apply Kept.drew) | exact HK.out)).1) hn_))))); have n1_ := Aside0.mk (Kept.then_ (S := (fun k_ => P2_ k_)) (by repeat (first | (with_reducible first | exact HK.out | apply Kept.alloc | apply Kept.drewN | apply Kept.drew) | exact HK.out)) hkp (fun k_ hs_ => (fun e_ => (HO_2.out.1 k_ e_.symm)) hs_)); have n2_ := Aside0.mk (hb); clear HK; clear HB; clear HO_2; have HO174 := n0_; have HK := n1_; have HB := n2_; clear n0_ n1_ n2_; (try clear hb); (try clear hkp); (try clear ho0)) | ((with_reducible refine gate_builtin (b := .append) (xs := #[.tmp 39, .tmp 41]) rfl ?_); at_builtin; refine Kd.R_append (Kd.int .i64) (w0 := w0) w0.heap.size rfl (.tmp 39) (.tmp 41) 25 2 (.int .i64 0) 8 rfl Try.underlying25 info2 rfl (by decide) (by omega) v173 t172 a1 [.int .i64 a1] (fun k_ => (P2_ k_ ∨ w.heap.size ≤ k_)) (fun _ => False) rfl rfl ?aP (fun _ hk => hk.elim) ?aF ?aO ?aB ?aS ?aL ?_; (case aP => exact rfl); (case aB => exact (by repeat (first | (with_reducible first | exact HB.out | apply below_alloc | apply pw_below_drewN | apply below_drew1) | exact HB.out))); (case aF => exact (fun k_ hk => (.inr (Nat.le_trans (by first | exact HK.out.1 | exact (show Kept w _ (fun k_ => P2_ k_) from by repeat (first | (with_reducible first | exact HK.out | apply Kept.alloc | apply Kept.drewN | apply Kept.drew) | exact HK.out)).1) hk)))); (case aO => exact (by (with_reducible repeat (first | apply Kd.R_alloc | apply Kd.R_drewN | apply Kd.R_drew)); exact HO174.out)); (case aS => exact (below_size (by repeat (first | (with_reducible first | exact HB.out | apply below_alloc | apply pw_below_drewN | apply below_drew1) | exact HB.out)))); (case aL => have := LMc18.out; omega); intro v176 w21 ho hb hg hat; rw [← Ny175.out] at ho; have n0_ := Aside0.mk (hb); have n1_ := Aside0.mk (Kept.of_grown (S := (fun k_ => P2_ k_)) hg (by repeat (first | (with_reducible first | exact HK.out | apply Kept.alloc | apply Kept.drewN | apply Kept.drew) | exact HK.out)) (fun k_ e_ => (HO174.out.1 k_ e_))); have n2_ := Aside0.mk (ho); clear HB; clear HK; clear HO174; have HB := n0_; have HK := n1_; have HO177 := n2_; clear n0_ n1_ n2_; clear ho hb hg hat))
                    go_ret
                    exact ⟨_, by first | rfl | (simp [errW_none, errW_some] <;> rfl) | (simp [*, errW_none, errW_some] <;> rfl), by (with_reducible repeat (first | apply Kd.R_alloc | apply Kd.R_drewN | apply Kd.R_drew)); exact HO177.out, by repeat (first | (with_reducible first | exact HB.out | apply below_alloc | apply pw_below_drewN | apply below_drew1) | exact HB.out), by repeat (first | (with_reducible first | exact HK.out | apply Kept.alloc | apply Kept.drewN | apply Kept.drew) | exact HK.out)⟩
                  · rw [if_neg c18] at H
                    exact absurd H (by simp)
                · replace c16 := Bool.eq_false_iff.mpr c16
                  subst c16
                  have H1 : (if x2_7.length < 17592186044416 then (some (x2_7 ++ [a1])) else (none)) = some r := by rw [if_neg (show ¬ (false = true) by decide)] at H; exact H
                  clear H
                  have H := H1
                  clear H1
                  by_cases c22 : x2_7.length < 17592186044416
                  · rw [if_pos c22] at H
                    have LMc22 := Aside0.mk c22
                    clear c22
                    obtain ⟨y178, hy178⟩ : ∃ y_ : List Int, y_ = (x2_7 ++ [a1]) := ⟨_, rfl⟩
                    replace H : (some y178) = some r := by first | (rw [hy178]; with_reducible exact H) | (have H2_ := (Option.bind_some _ _).symm.trans H; rw [hy178]; with_reducible exact H2_) | (have H2_ := (Option.bind_some _ _).symm.trans H; with_reducible exact H2_) | with_reducible exact H | (rw [hy178]; exact H) | exact H
                    have Ny178 := Aside0.mk hy178
                    clear hy178
                    obtain rfl := Option.some.inj H
                    have p169 : 0 ≤ (a1 : Int) := of_decide_eq_true (by first | (with_reducible assumption) | assumption)
                    have q169 : a1 < (l0.length : Int) := of_decide_eq_true (by first | (with_reducible assumption) | assumption)
                    obtain ⟨ad169, e169, hx169_0, hx169_1, hx169_2, hx169_3⟩ := at_T77 (Kd.C_kept_now HR0.out HK.out) a1 p169 q169
                    obtain rfl : ad164 = ad169 := (by injection e169)
                    replace p169 := eq_true p169
                    replace q169 := eq_true q169
                    go_wp2_with (first | ((with_reducible refine gate_callee (f := 118) rfl ?_); refine goesL_ (some 30) rfl rfl Try.func118 (by kernel_rfl) rfl #[.int .i64 ((rd_T77 l0 a1).f0)] rfl (by (try simp only [List.map_toArray, List.map_cons, List.map_nil]); first | done | rfl | (simp only [List.length_drop, List.length_take]; rfl)) ?_; (with_reducible refine (spec_l3Two.calls ((rd_T77 l0 a1).f0) false _ A15.out).mono ?_); rintro e w' ⟨rfl, ⟨nd, rfl⟩⟩; refine ⟨_, rfl, ?_⟩) | ((with_reducible refine gate_builtin (b := .append) (xs := #[.tmp 39, .tmp 41]) rfl ?_); at_builtin; refine Kd.R_append (Kd.int .i64) (w0 := w0) w0.heap.size rfl (.tmp 39) (.tmp 41) 25 2 (.int .i64 0) 8 rfl Try.underlying25 info2 rfl (by decide) (by omega) u2 x2_7 a1 [.int .i64 a1] (fun k_ => (P2_ k_ ∨ w.heap.size ≤ k_)) (fun _ => False) rfl rfl ?aP (fun _ hk => hk.elim) ?aF ?aO ?aB ?aS ?aL ?_; (case aP => exact rfl); (case aB => exact (by repeat (first | (with_reducible first | exact HB.out | apply below_alloc | apply pw_below_drewN | apply below_drew1) | exact HB.out))); (case aF => exact (fun k_ hk => (.inr (Nat.le_trans (by first | exact HK.out.1 | exact (show Kept w _ (fun k_ => P2_ k_) from by repeat (first | (with_reducible first | exact HK.out | apply Kept.alloc | apply Kept.drewN | apply Kept.drew) | exact HK.out)).1) hk)))); (case aO => exact (by (with_reducible repeat (first | apply Kd.R_alloc | apply Kd.R_drewN | apply Kd.R_drew)); exact HO_2.out)); (case aS => exact (below_size (by repeat (first | (with_reducible first | exact HB.out | apply below_alloc | apply pw_below_drewN | apply below_drew1) | exact HB.out)))); (case aL => have := LMc22.out; omega); intro v179 w23 ho hb hg hat; rw [← Ny178.out] at ho; have n0_ := Aside0.mk (hb); have n1_ := Aside0.mk (Kept.of_grown (S := (fun k_ => P2_ k_)) hg (by repeat (first | (with_reducible first | exact HK.out | apply Kept.alloc | apply Kept.drewN | apply Kept.drew) | exact HK.out)) (fun k_ e_ => (HO_2.out.1 k_ e_))); have n2_ := Aside0.mk (ho); clear HB; clear HK; clear HO_2; have HB := n0_; have HK := n1_; have HO180 := n2_; clear n0_ n1_ n2_; clear ho hb hg hat))
                    go_ret
                    exact ⟨_, by first | rfl | (simp [errW_none, errW_some] <;> rfl) | (simp [*, errW_none, errW_some] <;> rfl), by (with_reducible repeat (first | apply Kd.R_alloc | apply Kd.R_drewN | apply Kd.R_drew)); exact HO180.out, by repeat (first | (with_reducible first | exact HB.out | apply below_alloc | apply pw_below_drewN | apply below_drew1) | exact HB.out), by repeat (first | (with_reducible first | exact HK.out | apply Kept.alloc | apply Kept.drewN | apply Kept.drew) | exact HK.out)⟩
                  · rw [if_neg c22] at H
                    exact absurd H (by simp)
              · rw [if_neg c14] at H
                exact absurd H (by simp)
            · rw [if_neg c13] at H
              exact absurd H (by simp)
      · rw [if_neg c7] at H
        exact absurd H (by simp)
    · rw [if_neg c6] at H
      exact absurd H (by simp)

/-! ### spec_l3Fault: function 59 -/
mutual
def spec_l3Fault.j0 : Nat → List (S77) → Bool → Option (Int)
  | 0, _, _ => none
  | k + 1, x0, x14 => if x14 = true then (some 2) else (spec_l3Fault.l0 k x0 0)
def spec_l3Fault.l0 : Nat → List (S77) → Int → Option (Int)
  | 0, _, _ => none
  | k + 1, x0, x3 => if x3 < (x0.length : Int) then (if 0 ≤ x3 then ((spec_l3Node.f k (rd_T77 x0 x3) x3).bind fun t182 => (if t182 = 0 then (spec_l3Fault.l0 k x0 (wrap64 (x3 + 1))) else (some t182))) else (none)) else ((spec_l3Walk.f k x0 (wrap64 ((x0.length : Int) - 1)) ([] : List Int)).bind fun t183 => (if (t183.length : Int) = (x0.length : Int) then (spec_l3Fault.l1 k t183 0) else (some 1)))
def spec_l3Fault.l1 : Nat → List Int → Int → Option (Int)
  | 0, _, _ => none
  | k + 1, x5, x6 => if x6 < (x5.length : Int) then (if 0 ≤ x6 then (if (rd x5 x6) = x6 then (spec_l3Fault.l1 k x5 (wrap64 (x6 + 1))) else (some 1)) else (none)) else (some 0)
end
def spec_l3Fault.f (k : Nat) (l0 : List (S77)) : Option (Int) := if (l0.length : Int) < 1 then (spec_l3Fault.j0 k l0 true) else (spec_l3Fault.j0 k l0 (decide ((l0.length : Int) > 16)))
theorem spec_l3Fault.mono_l : ∀ k, (∀ y0 y1, LeO (spec_l3Fault.j0 k y0 y1) (spec_l3Fault.j0 (k + 1) y0 y1)) ∧ (∀ y0 y1, LeO (spec_l3Fault.l0 k y0 y1) (spec_l3Fault.l0 (k + 1) y0 y1)) ∧ (∀ y0 y1, LeO (spec_l3Fault.l1 k y0 y1) (spec_l3Fault.l1 (k + 1) y0 y1))
  | 0 => ⟨fun _ _ r h => by simp [spec_l3Fault.j0] at h, fun _ _ r h => by simp [spec_l3Fault.l0] at h, fun _ _ r h => by simp [spec_l3Fault.l1] at h⟩
  | k + 1 => by
    obtain ⟨ih0, ih1, ih2⟩ := spec_l3Fault.mono_l k
    refine ⟨?_, ?_, ?_⟩
    · intro y0 y1
      unfold spec_l3Fault.j0
      repeat' first
      | (with_reducible exact ih0 _ _)
      | (with_reducible exact ih1 _ _)
      | (with_reducible exact ih2 _ _)
      | (with_reducible exact spec_l3Node.mono _ _ _)
      | (with_reducible exact spec_l3Walk.mono _ _ _ _)
      | (with_reducible exact LeO.refl _)
      | (with_reducible exact LeO.none _)
      | (with_reducible refine LeO.ite ?_ ?_)
      | (with_reducible refine LeO.bind ?_ (fun _ => ?_))
      | exact ih0 _ _
      | exact ih1 _ _
      | exact ih2 _ _
      | exact spec_l3Node.mono _ _ _
      | exact spec_l3Walk.mono _ _ _ _
      | exact LeO.none _
      | refine LeO.ite ?_ ?_
      | refine LeO.bind ?_ (fun _ => ?_)
    · intro y0 y1
      unfold spec_l3Fault.l0
      repeat' first
      | (with_reducible exact ih0 _ _)
      | (with_reducible exact ih1 _ _)
      | (with_reducible exact ih2 _ _)
      | (with_reducible exact spec_l3Node.mono _ _ _)
      | (with_reducible exact spec_l3Walk.mono _ _ _ _)
      | (with_reducible exact LeO.refl _)
      | (with_reducible exact LeO.none _)
      | (with_reducible refine LeO.ite ?_ ?_)
      | (with_reducible refine LeO.bind ?_ (fun _ => ?_))
      | exact ih0 _ _
      | exact ih1 _ _
      | exact ih2 _ _
      | exact spec_l3Node.mono _ _ _
      | exact spec_l3Walk.mono _ _ _ _
      | exact LeO.none _
      | refine LeO.ite ?_ ?_
      | refine LeO.bind ?_ (fun _ => ?_)
    · intro y0 y1
      unfold spec_l3Fault.l1
      repeat' first
      | (with_reducible exact ih0 _ _)
      | (with_reducible exact ih1 _ _)
      | (with_reducible exact ih2 _ _)
      | (with_reducible exact spec_l3Node.mono _ _ _)
      | (with_reducible exact spec_l3Walk.mono _ _ _ _)
      | (with_reducible exact LeO.refl _)
      | (with_reducible exact LeO.none _)
      | (with_reducible refine LeO.ite ?_ ?_)
      | (with_reducible refine LeO.bind ?_ (fun _ => ?_))
      | exact ih0 _ _
      | exact ih1 _ _
      | exact ih2 _ _
      | exact spec_l3Node.mono _ _ _
      | exact spec_l3Walk.mono _ _ _ _
      | exact LeO.none _
      | refine LeO.ite ?_ ?_
      | refine LeO.bind ?_ (fun _ => ?_)
theorem spec_l3Fault.mono : ∀ a0 k, LeO (spec_l3Fault.f k a0) (spec_l3Fault.f (k + 1) a0) := by
  intro a0 k
  obtain ⟨ih0, ih1, ih2⟩ := spec_l3Fault.mono_l k
  unfold spec_l3Fault.f
  repeat' first
      | (with_reducible exact ih0 _ _)
      | (with_reducible exact ih1 _ _)
      | (with_reducible exact ih2 _ _)
      | (with_reducible exact spec_l3Node.mono _ _ _)
      | (with_reducible exact spec_l3Walk.mono _ _ _ _)
      | (with_reducible exact LeO.refl _)
      | (with_reducible exact LeO.none _)
      | (with_reducible refine LeO.ite ?_ ?_)
      | (with_reducible refine LeO.bind ?_ (fun _ => ?_))
      | exact ih0 _ _
      | exact ih1 _ _
      | exact ih2 _ _
      | exact spec_l3Node.mono _ _ _
      | exact spec_l3Walk.mono _ _ _ _
      | exact LeO.none _
      | refine LeO.ite ?_ ?_
      | refine LeO.bind ?_ (fun _ => ?_)
set_option maxHeartbeats 8000000 in
set_option maxRecDepth 100000 in
theorem spec_l3Fault.calls (k : Nat) (A0 : Option Addr) (c0 : Nat) (l0 : List (S77)) (r : Int) (w : World) (hr0 : Kd.C k77 w A0 l0.length l0) (hc0 : l0.length ≤ c0) (h : spec_l3Fault.f k l0 = some r) :
    Calls Try.prog 59 #[.slice A0 l0.length c0] w fun e w' => e = .returned (.int .i64 r) ∧ Below w.heap.size w w' := by
  have HR0 := Aside0.mk hr0
  have HC0 := Aside0.mk hc0
  clear hr0 hc0
  have HB := Aside0.mk (Below.refl w.heap.size w)
  have H : (if (l0.length : Int) < 1 then (spec_l3Fault.j0 k l0 true) else (spec_l3Fault.j0 k l0 (decide ((l0.length : Int) > 16)))) = some r := h
  clear h
  have HC2 := Aside0.mk H
  clear H
  go_enter Try.func59, Try.ntmps59
  go_upto_region 1 with (fail)
  go_cut [14] (fun v14 wc => ∃ (kq : Nat) (x14_1 : Bool), v14 = .bool x14_1 ∧ Aside0 (spec_l3Fault.j0 kq l0 x14_1 = some r) ∧ Aside0 (kq ≤ k) ∧ Aside0 (Below w.heap.size w wc))
  case first =>
    have H := HC2.out
    clear HC2
    by_cases c3 : (l0.length : Int) < 1
    · rw [if_pos c3] at H
      have c3b0 : decide ((l0.length : Int) < 1) = true := decide_eq_true c3
      have c3b1 : decide (l0.length < 1) = true := decide_eq_true (by omega)
      clear c3
      (first | rw [c3b0] | (simp only [i64_w, i32_w]; rw [c3b0]) | skip)
      have H' := Aside0.mk H
      clear H
      go_wp2
      go_meet
      case rel => exact ⟨_, (true), (by first | rfl | (simp; done) | (simp [*]; done)), H', ⟨by first | omega | exact Nat.le_refl _⟩, ⟨by repeat (first | (with_reducible first | exact HB.out | apply below_alloc | apply pw_below_drewN | apply below_drew1) | exact HB.out)⟩⟩
    · rw [if_neg c3] at H
      have c3b0 : decide ((l0.length : Int) < 1) = false := decide_eq_false c3
      have c3b1 : decide (l0.length < 1) = false := decide_eq_false (by omega)
      clear c3
      (first | rw [c3b0] | (simp only [i64_w, i32_w]; rw [c3b0]) | skip)
      have H' := Aside0.mk H
      clear H
      go_wp2
      go_meet
      case rel => exact ⟨_, (decide ((l0.length : Int) > 16)), (by first | rfl | (simp; done) | (simp [*]; done)), H', ⟨by first | omega | exact Nat.le_refl _⟩, ⟨by repeat (first | (with_reducible first | exact HB.out | apply below_alloc | apply pw_below_drewN | apply below_drew1) | exact HB.out)⟩⟩
  case rest =>
    clear HC2
    try clear p2
    try clear c3
    try clear c3b0
    try clear c3b1
    obtain ⟨kq, x14_1, rfl, HA, HJ1, HB⟩ := hcut
    cases kq with
    | zero => exact absurd HA.out (by simp [spec_l3Fault.j0])
    | succ kj1 =>
      have H := HA.out
      clear HA
      simp only [spec_l3Fault.j0] at H
      by_cases c4 : x14_1 = true
      · subst c4
        have H1 : (some 2) = some r := by rw [if_pos rfl] at H; exact H
        clear H
        have H := H1
        clear H1
        obtain rfl := Option.some.inj H
        go_wp2
        go_ret
        exact ⟨by first | rfl | (simp [errW_none, errW_some] <;> rfl) | (simp [*, errW_none, errW_some] <;> rfl), by repeat (first | (with_reducible first | exact HB.out | apply below_alloc | apply pw_below_drewN | apply below_drew1) | exact HB.out)⟩
      · replace c4 := Bool.eq_false_iff.mpr c4
        subst c4
        have H1 : (spec_l3Fault.l0 kj1 l0 0) = some r := by rw [if_neg (show ¬ (false = true) by decide)] at H; exact H
        clear H
        have H := H1
        clear H1
        have H' := Aside0.mk H
        clear H
        go_wp2
        go_loopg [3] kj1 (fun kq v3 w' => ∃ (x3_2 : Int), v3 = .int .i64 x3_2 ∧ Aside0 (spec_l3Fault.l0 kq l0 x3_2 = some r) ∧ Aside0 (kq ≤ kj1) ∧ Aside0 (Below w.heap.size w w'))
        case atStart => exact ⟨(0), (by first | rfl | (simp; done) | (simp [*]; done)), H', ⟨Nat.le_refl _⟩, ⟨by repeat (first | (with_reducible first | exact HB.out | apply below_alloc | apply pw_below_drewN | apply below_drew1) | exact HB.out)⟩⟩
        case round =>
          clear H'
          try clear p2
          try clear c3
          try clear c3b0
          try clear c3b1
          try clear c4
          try clear p2
          obtain ⟨x3_2, rfl, HA, HK2, HB⟩ := hrel
          cases gk with
          | zero => exact absurd HA.out (by simp [spec_l3Fault.l0])
          | succ k2 =>
            have H := HA.out
            clear HA
            simp only [spec_l3Fault.l0] at H
            by_cases c5 : x3_2 < (l0.length : Int)
            · rw [if_pos c5] at H
              have c5b0 : decide (x3_2 < (l0.length : Int)) = true := decide_eq_true c5
              clear c5
              by_cases c6 : 0 ≤ x3_2
              · rw [if_pos c6] at H
                have c6b0 : decide (0 ≤ x3_2) = true := decide_eq_true c6
                clear c6
                replace H := Option.bind_eq_some_iff.mp H
                obtain ⟨t182, A70, H⟩ := H
                replace H : (if t182 = 0 then (spec_l3Fault.l0 k2 l0 (wrap64 (x3_2 + 1))) else (some t182)) = some r := H
                have A7 := Aside0.mk A70
                clear A70
                by_cases c8 : t182 = 0
                · rw [if_pos c8] at H
                  have c8b0 : (t182 == 0) = true := beq_iff_eq.mpr c8
                  have c8b1 : (t182 != 0) = false := bne_eq_false_iff_eq.mpr c8
                  clear c8
                  have H' := Aside0.mk H
                  clear H
                  have p181 : 0 ≤ (x3_2 : Int) := of_decide_eq_true (by first | (with_reducible assumption) | assumption)
                  have q181 : x3_2 < (l0.length : Int) := of_decide_eq_true (by first | (with_reducible assumption) | assumption)
                  obtain ⟨ad181, e181, hx181_0, hx181_1, hx181_2, hx181_3⟩ := at_T77 HR0.out x3_2 p181 q181
                  cases e181
                  replace hx181_0 := (HB.out.cell (World.block_lt_of_cell? w _ hx181_0)).trans hx181_0
                  replace hx181_1 := (HB.out.cell (World.block_lt_of_cell? w _ hx181_1)).trans hx181_1
                  replace hx181_2 := (HB.out.cell (World.block_lt_of_cell? w _ hx181_2)).trans hx181_2
                  replace hx181_3 := (HB.out.cell (World.block_lt_of_cell? w _ hx181_3)).trans hx181_3
                  replace p181 := eq_true p181
                  replace q181 := eq_true q181
                  go_wp2_with (first | ((with_reducible refine gate_callee (f := 99) rfl ?_); refine goesL_ (some 25) rfl rfl Try.func99 (by kernel_rfl) rfl #[.pointer (some (ad181.add ((x3_2).toNat * 4))), .int .i64 x3_2] rfl (by (try simp only [List.map_toArray, List.map_cons, List.map_nil]); first | done | rfl | (simp only [List.length_drop, List.length_take]; rfl)) ?_; (with_reducible refine (spec_l3Node.calls k2 _ (rd_T77 l0 x3_2) x3_2 t182 _ ?side1 A7.out).mono ?_); (case side1 => refine C_one (by repeat (first | exact (Kd.C_below HR0.out HB.out) | (with_reducible refine Kd.C_alloc ?_ _) | (with_reducible refine Kd.C_drewN ?_ _) | (with_reducible refine Kd.C_drew ?_))) x3_2 (by first | omega | exact of_decide_eq_true (by first | (with_reducible assumption) | assumption)) (by first | exact of_decide_eq_true (by first | (with_reducible assumption) | assumption) | omega) _ rfl); rintro e w' ⟨rfl, ⟨nd, rfl⟩⟩; refine ⟨_, rfl, ?_⟩))
                  go_roundg k2
                  case measure => have := HJ1.out; have := HK2.out; omega
                  case rel => exact ⟨(wrap64 (x3_2 + 1)), (by first | rfl | (simp; done) | (simp [*]; done)), H', ⟨by have := HJ1.out; have := HK2.out; omega⟩, ⟨by repeat (first | (with_reducible first | exact HB.out | apply below_alloc | apply pw_below_drewN | apply below_drew1) | exact HB.out)⟩⟩
                · rw [if_neg c8] at H
                  have c8b0 : (t182 == 0) = false := beq_eq_false_iff_ne.mpr c8
                  have c8b1 : (t182 != 0) = true := bne_iff_ne.mpr c8
                  obtain rfl := Option.some.inj H
                  have p181 : 0 ≤ (x3_2 : Int) := of_decide_eq_true (by first | (with_reducible assumption) | assumption)
                  have q181 : x3_2 < (l0.length : Int) := of_decide_eq_true (by first | (with_reducible assumption) | assumption)
                  obtain ⟨ad181, e181, hx181_0, hx181_1, hx181_2, hx181_3⟩ := at_T77 HR0.out x3_2 p181 q181
                  cases e181
                  replace hx181_0 := (HB.out.cell (World.block_lt_of_cell? w _ hx181_0)).trans hx181_0
                  replace hx181_1 := (HB.out.cell (World.block_lt_of_cell? w _ hx181_1)).trans hx181_1
                  replace hx181_2 := (HB.out.cell (World.block_lt_of_cell? w _ hx181_2)).trans hx181_2
                  replace hx181_3 := (HB.out.cell (World.block_lt_of_cell? w _ hx181_3)).trans hx181_3
                  replace p181 := eq_true p181
                  replace q181 := eq_true q181
                  go_wp2_with (first | ((with_reducible refine gate_callee (f := 99) rfl ?_); refine goesL_ (some 25) rfl rfl Try.func99 (by kernel_rfl) rfl #[.pointer (some (ad181.add ((x3_2).toNat * 4))), .int .i64 x3_2] rfl (by (try simp only [List.map_toArray, List.map_cons, List.map_nil]); first | done | rfl | (simp only [List.length_drop, List.length_take]; rfl)) ?_; (with_reducible refine (spec_l3Node.calls k2 _ (rd_T77 l0 x3_2) x3_2 t182 _ ?side1 A7.out).mono ?_); (case side1 => refine C_one (by repeat (first | exact (Kd.C_below HR0.out HB.out) | (with_reducible refine Kd.C_alloc ?_ _) | (with_reducible refine Kd.C_drewN ?_ _) | (with_reducible refine Kd.C_drew ?_))) x3_2 (by first | omega | exact of_decide_eq_true (by first | (with_reducible assumption) | assumption)) (by first | exact of_decide_eq_true (by first | (with_reducible assumption) | assumption) | omega) _ rfl); rintro e w' ⟨rfl, ⟨nd, rfl⟩⟩; refine ⟨_, rfl, ?_⟩))
                  go_ret
                  exact ⟨by first | rfl | (simp [errW_none, errW_some] <;> rfl) | (simp [*, errW_none, errW_some] <;> rfl), by repeat (first | (with_reducible first | exact HB.out | apply below_alloc | apply pw_below_drewN | apply below_drew1) | exact HB.out)⟩
              · rw [if_neg c6] at H
                exact absurd H (by simp)
            · rw [if_neg c5] at H
              have c5b0 : decide (x3_2 < (l0.length : Int)) = false := decide_eq_false c5
              clear c5
              replace H := Option.bind_eq_some_iff.mp H
              obtain ⟨t183, A90, H⟩ := H
              replace H : (if (t183.length : Int) = (l0.length : Int) then (spec_l3Fault.l1 k2 t183 0) else (some 1)) = some r := H
              have A9 := Aside0.mk A90
              clear A90
              by_cases c10 : (t183.length : Int) = (l0.length : Int)
              · rw [if_pos c10] at H
                have c10b0 : ((t183.length : Int) == (l0.length : Int)) = true := beq_iff_eq.mpr c10
                have c10b1 : ((t183.length : Int) != (l0.length : Int)) = false := bne_eq_false_iff_eq.mpr c10
                have c10b2 : (t183.length == l0.length) = true := by first | simpa using c10 | (simp at c10 ⊢; omega)
                clear c10
                have H' := Aside0.mk H
                clear H
                go_wp2_with (first | ((with_reducible refine gate_callee (f := 100) rfl ?_); refine goesL_ (some 33) rfl rfl Try.func100 (by kernel_rfl) rfl #[.slice A0 l0.length c0, .int .i64 (wrap64 ((l0.length : Int) - 1)), .slice none 0 0] rfl (by (try simp only [List.map_toArray, List.map_cons, List.map_nil]); first | done | rfl | (simp only [List.length_drop, List.length_take]; rfl)) ?_; (refine (spec_l3Walk.calls k2 _ _ l0 (wrap64 ((l0.length : Int) - 1)) (fun k_ => some k_ = (.slice none 0 0 : Value).ownBlock) (.slice none 0 0) ([] : List Int) t183 w _ ?side1 ?side2 ?side3 ?side4 A9.out).mono ?_); (case side1 => repeat (first | (with_reducible first | exact HB.out | apply below_alloc | apply pw_below_drewN | apply below_drew1) | exact HB.out)); (case side2 => exact Kd.C_kept_came k77_heap HR0.out (by repeat (first | (with_reducible first | exact HB.out | apply below_alloc | apply pw_below_drewN | apply below_drew1) | exact HB.out)) (fun k_ hs_ => (fun e_ => by simp [Value.ownBlock] at e_) hs_)); (case side3 => exact HC0.out); (case side4 => exact Kd.R_nil _ _ _ _ _); rintro e w11 ⟨v184, rfl, ho0, hb, hkp⟩; refine ⟨_, rfl, ?_⟩; have n0_ := Aside0.mk (Kd.R_mono (ok' := fun k_ => True) ho0 (fun k_ hk_ => trivial)); have n1_ := Aside0.mk (hb); clear HB; have HO185 := n0_; have HB := n1_; clear n0_ n1_; (try clear hb); (try clear hkp); (try clear ho0); obtain ⟨Ao12, co12, eo12⟩ := Kd.R_slice HO185.out; subst eo12))
                go_loopg [6] k2 (fun kq v6 w' => ∃ (x6_3 : Int), v6 = .int .i64 x6_3 ∧ Aside0 (spec_l3Fault.l1 kq t183 x6_3 = some r) ∧ Aside0 (kq ≤ k2) ∧ Aside0 (Kd.R (Kd.int .i64) 2 w' w.heap.size (fun _ => True) (.slice Ao12 t183.length co12) t183) ∧ Aside0 (Below w.heap.size w w'))
                case atStart => exact ⟨(0), (by first | rfl | (simp; done) | (simp [*]; done)), H', ⟨Nat.le_refl _⟩, ⟨by (with_reducible repeat (first | apply Kd.R_alloc | apply Kd.R_drewN | apply Kd.R_drew)); exact HO185.out⟩, ⟨by repeat (first | (with_reducible first | exact HB.out | apply below_alloc | apply pw_below_drewN | apply below_drew1) | exact HB.out)⟩⟩
                case round =>
                  clear H'
                  try clear c1
                  try clear p1
                  try clear q1
                  try clear hx1
                  try clear p2
                  try clear c3
                  try clear c3b0
                  try clear c3b1
                  try clear c4
                  try clear c5
                  try clear c5b0
                  try clear c6
                  try clear c6b0
                  try clear p6
                  try clear c8
                  try clear c8b0
                  try clear c8b1
                  try clear c9
                  try clear c10
                  try clear c10b0
                  try clear c10b1
                  try clear c10b2
                  try clear hx181_0
                  try clear hx181_1
                  try clear hx181_2
                  try clear hx181_3
                  try clear p181
                  try clear p2
                  try clear q181
                  obtain ⟨x6_3, rfl, HA, HK3, HO_5, HB⟩ := hrel
                  cases gk with
                  | zero => exact absurd HA.out (by simp [spec_l3Fault.l1])
                  | succ k3 =>
                    have H := HA.out
                    clear HA
                    simp only [spec_l3Fault.l1] at H
                    by_cases c13 : x6_3 < (t183.length : Int)
                    · rw [if_pos c13] at H
                      have c13b0 : decide (x6_3 < (t183.length : Int)) = true := decide_eq_true c13
                      clear c13
                      by_cases c14 : 0 ≤ x6_3
                      · rw [if_pos c14] at H
                        have c14b0 : decide (0 ≤ x6_3) = true := decide_eq_true c14
                        clear c14
                        by_cases c15 : (rd t183 x6_3) = x6_3
                        · rw [if_pos c15] at H
                          have c15b0 : ((rd t183 x6_3) == x6_3) = true := beq_iff_eq.mpr c15
                          have c15b1 : ((rd t183 x6_3) != x6_3) = false := bne_eq_false_iff_eq.mpr c15
                          clear c15
                          have H' := Aside0.mk H
                          clear H
                          have p186 : 0 ≤ (x6_3 : Int) := of_decide_eq_true (by first | (with_reducible assumption) | assumption)
                          have q186 : x6_3 < (t183.length : Int) := of_decide_eq_true (by first | (with_reducible assumption) | assumption)
                          obtain ⟨ad186, e186, hx186_0⟩ := Kd.at_int (Kd.R_reads' HO_5.out).2.2 x6_3 p186 q186
                          cases e186
                          replace p186 := eq_true p186
                          replace q186 := eq_true q186
                          go_wp2
                          go_roundg k3
                          case measure => have := HJ1.out; have := HK2.out; have := HK3.out; omega
                          case rel => exact ⟨(wrap64 (x6_3 + 1)), (by first | rfl | (simp; done) | (simp [*]; done)), H', ⟨by have := HJ1.out; have := HK2.out; have := HK3.out; omega⟩, ⟨by (with_reducible repeat (first | apply Kd.R_alloc | apply Kd.R_drewN | apply Kd.R_drew)); exact HO_5.out⟩, ⟨by repeat (first | (with_reducible first | exact HB.out | apply below_alloc | apply pw_below_drewN | apply below_drew1) | exact HB.out)⟩⟩
                        · rw [if_neg c15] at H
                          have c15b0 : ((rd t183 x6_3) == x6_3) = false := beq_eq_false_iff_ne.mpr c15
                          have c15b1 : ((rd t183 x6_3) != x6_3) = true := bne_iff_ne.mpr c15
                          obtain rfl := Option.some.inj H
                          have p186 : 0 ≤ (x6_3 : Int) := of_decide_eq_true (by first | (with_reducible assumption) | assumption)
                          have q186 : x6_3 < (t183.length : Int) := of_decide_eq_true (by first | (with_reducible assumption) | assumption)
                          obtain ⟨ad186, e186, hx186_0⟩ := Kd.at_int (Kd.R_reads' HO_5.out).2.2 x6_3 p186 q186
                          cases e186
                          replace p186 := eq_true p186
                          replace q186 := eq_true q186
                          go_wp2
                          go_ret
                          exact ⟨by first | rfl | (simp [errW_none, errW_some] <;> rfl) | (simp [*, errW_none, errW_some] <;> rfl), by repeat (first | (with_reducible first | exact HB.out | apply below_alloc | apply pw_below_drewN | apply below_drew1) | exact HB.out)⟩
                      · rw [if_neg c14] at H
                        exact absurd H (by simp)
                    · rw [if_neg c13] at H
                      have c13b0 : decide (x6_3 < (t183.length : Int)) = false := decide_eq_false c13
                      clear c13
                      obtain rfl := Option.some.inj H
                      go_wp2
                      go_ret
                      exact ⟨by first | rfl | (simp [errW_none, errW_some] <;> rfl) | (simp [*, errW_none, errW_some] <;> rfl), by repeat (first | (with_reducible first | exact HB.out | apply below_alloc | apply pw_below_drewN | apply below_drew1) | exact HB.out)⟩
              · rw [if_neg c10] at H
                have c10b0 : ((t183.length : Int) == (l0.length : Int)) = false := beq_eq_false_iff_ne.mpr c10
                have c10b1 : ((t183.length : Int) != (l0.length : Int)) = true := bne_iff_ne.mpr c10
                have c10b2 : (t183.length == l0.length) = false := by first | simpa using c10 | (simp at c10 ⊢; omega)
                obtain rfl := Option.some.inj H
                go_wp2_with (first | ((with_reducible refine gate_callee (f := 100) rfl ?_); refine goesL_ (some 33) rfl rfl Try.func100 (by kernel_rfl) rfl #[.slice A0 l0.length c0, .int .i64 (wrap64 ((l0.length : Int) - 1)), .slice none 0 0] rfl (by (try simp only [List.map_toArray, List.map_cons, List.map_nil]); first | done | rfl | (simp only [List.length_drop, List.length_take]; rfl)) ?_; (refine (spec_l3Walk.calls k2 _ _ l0 (wrap64 ((l0.length : Int) - 1)) (fun k_ => some k_ = (.slice none 0 0 : Value).ownBlock) (.slice none 0 0) ([] : List Int) t183 w _ ?side1 ?side2 ?side3 ?side4 A9.out).mono ?_); (case side1 => repeat (first | (with_reducible first | exact HB.out | apply below_alloc | apply pw_below_drewN | apply below_drew1) | exact HB.out)); (case side2 => exact Kd.C_kept_came k77_heap HR0.out (by repeat (first | (with_reducible first | exact HB.out | apply below_alloc | apply pw_below_drewN | apply below_drew1) | exact HB.out)) (fun k_ hs_ => (fun e_ => by simp [Value.ownBlock] at e_) hs_)); (case side3 => exact HC0.out); (case side4 => exact Kd.R_nil _ _ _ _ _); rintro e w16 ⟨v184, rfl, ho0, hb, hkp⟩; refine ⟨_, rfl, ?_⟩; have n0_ := Aside0.mk (Kd.R_mono (ok' := fun k_ => True) ho0 (fun k_ hk_ => trivial)); have n1_ := Aside0.mk (hb); clear HB; have HO185 := n0_; have HB := n1_; clear n0_ n1_; (try clear hb); (try clear hkp); (try clear ho0); obtain ⟨Ao17, co17, eo17⟩ := Kd.R_slice HO185.out; subst eo17))
                go_ret
                exact ⟨by first | rfl | (simp [errW_none, errW_some] <;> rfl) | (simp [*, errW_none, errW_some] <;> rfl), by repeat (first | (with_reducible first | exact HB.out | apply below_alloc | apply pw_below_drewN | apply below_drew1) | exact HB.out)⟩

/-! ### impl_isTwo: function 62 -/
def impl_isTwo.f (a0 : Int) : Option (Bool) := (impl_inRange.f a0 3 9).bind fun t200 => (some t200)
set_option maxHeartbeats 8000000 in
set_option maxRecDepth 100000 in
theorem impl_isTwo.calls (a0 : Int) (r : Bool) (w : World) (h : impl_isTwo.f a0 = some r) :
    Calls Try.prog 62 #[.int .i64 a0] w fun e w' => e = .returned (.bool r) ∧ Drawn0 w w' := by
  have H : ((impl_inRange.f a0 3 9).bind fun t200 => (some t200)) = some r := h
  clear h
  replace H := Option.bind_eq_some_iff.mp H
  obtain ⟨t200, A20, H⟩ := H
  replace H : (some t200) = some r := H
  have A2 := Aside0.mk A20
  clear A20
  obtain rfl := Option.some.inj H
  go_enter Try.func62, Try.ntmps62
  go_wp2_with (first | ((with_reducible refine gate_callee (f := 58) rfl ?_); refine goesL_ (some 4) rfl rfl Try.func58 (by kernel_rfl) rfl #[.int .i64 a0, .int .i64 3, .int .i64 9] rfl (by (try simp only [List.map_toArray, List.map_cons, List.map_nil]); first | done | rfl | (simp only [List.length_drop, List.length_take]; rfl)) ?_; (with_reducible refine (impl_inRange.calls a0 3 9 t200 _ A2.out).mono ?_); rintro e w' ⟨rfl, ⟨nd, rfl⟩⟩; refine ⟨_, rfl, ?_⟩))
  go_ret
  exact ⟨by first | rfl | (simp; done) | (simp [*]; done), by repeat (first | exact Drawn0.refl _ | apply Drawn0.step)⟩

end Go.Proofs.Ytjlcajhlggoleaa.Q
