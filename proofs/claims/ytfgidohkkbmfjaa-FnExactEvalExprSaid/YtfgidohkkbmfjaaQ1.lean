-- Written by a program of this session's own (xp.py) for this seat.
import Derived.Test.YtfgidohkkbmfjaaQ0
namespace Go.Proofs.Ytfgidohkkbmfjaa.Q
open Go.RowKit Go.Proofs.YtfgidohkkbmfjaaW.PrintWords Go.Proofs.YtfgidohkkbmfjaaW.PrintLast Go.Proofs.YtfgidohkkbmfjaaW.PrintMore
attribute [local go_sem] max2_int min2_int max_two min_two max_three min_three max_four min_four   -- for this text's walks alone
set_option linter.unusedVariables false
set_option linter.unusedSimpArgs false

/-! ### laws_szNodeS: function 6 -/
def laws_szNodeS.f (l0 : List (S56)) (a1 : Int) : Option (Int) := if (wrap64 (a1 - (l0.length : Int))) < 0 then (some (-1)) else (some (wrap64 (a1 - (l0.length : Int))))
set_option maxHeartbeats 8000000 in
set_option maxRecDepth 100000 in
theorem laws_szNodeS.calls (A0 : Option Addr) (c0 : Nat) (l0 : List (S56)) (a1 : Int) (r : Int) (w : World) (hr0 : Kd.C k56 w A0 l0.length l0) (hc0 : l0.length ≤ c0) (h : laws_szNodeS.f l0 a1 = some r) :
    Calls Try.prog 6 #[.slice A0 l0.length c0, .int .i64 a1] w fun e w' => e = .returned (.int .i64 r) ∧ Drawn0 w w' := by
  have HR0 := Aside0.mk hr0
  have HC0 := Aside0.mk hc0
  clear hr0 hc0
  have H : (if (wrap64 (a1 - (l0.length : Int))) < 0 then (some (-1)) else (some (wrap64 (a1 - (l0.length : Int))))) = some r := h
  clear h
  by_cases c3 : (wrap64 (a1 - (l0.length : Int))) < 0
  · rw [if_pos c3] at H
    have c3b0 : decide ((wrap64 (a1 - (l0.length : Int))) < 0) = true := decide_eq_true c3
    clear c3
    obtain rfl := Option.some.inj H
    go_enter Try.func6, Try.ntmps6
    go_wp2
    go_ret
    exact ⟨by first | rfl | (simp; done) | (simp [*]; done), by repeat (first | exact Drawn0.refl _ | apply Drawn0.step)⟩
  · rw [if_neg c3] at H
    have c3b0 : decide ((wrap64 (a1 - (l0.length : Int))) < 0) = false := decide_eq_false c3
    clear c3
    obtain rfl := Option.some.inj H
    go_enter Try.func6, Try.ntmps6
    go_wp2
    go_ret
    exact ⟨by first | rfl | (simp; done) | (simp [*]; done), by repeat (first | exact Drawn0.refl _ | apply Drawn0.step)⟩

/-! ### spec_l1In: function 49 -/
def spec_l1In.f (a0 : Int) (a1 : Int) (a2 : Int) : Option (Bool) := if a0 ≥ a1 then (some (decide (a0 ≤ a2))) else (some false)
set_option maxHeartbeats 8000000 in
set_option maxRecDepth 100000 in
theorem spec_l1In.calls (a0 : Int) (a1 : Int) (a2 : Int) (r : Bool) (w : World) (h : spec_l1In.f a0 a1 a2 = some r) :
    Calls Try.prog 49 #[.int .i64 a0, .int .i64 a1, .int .i64 a2] w fun e w' => e = .returned (.bool r) ∧ Drawn0 w w' := by
  have H : (if a0 ≥ a1 then (some (decide (a0 ≤ a2))) else (some false)) = some r := h
  clear h
  by_cases c4 : a0 ≥ a1
  · rw [if_pos c4] at H
    have c4b0 : decide (a1 ≤ a0) = true := decide_eq_true c4
    clear c4
    obtain rfl := Option.some.inj H
    go_enter Try.func49, Try.ntmps49
    go_wp2
    go_ret
    exact ⟨by first | rfl | (simp; done) | (simp [*]; done), by repeat (first | exact Drawn0.refl _ | apply Drawn0.step)⟩
  · rw [if_neg c4] at H
    have c4b0 : decide (a1 ≤ a0) = false := decide_eq_false c4
    clear c4
    obtain rfl := Option.some.inj H
    go_enter Try.func49, Try.ntmps49
    go_wp2
    go_ret
    exact ⟨by first | rfl | (simp; done) | (simp [*]; done), by repeat (first | exact Drawn0.refl _ | apply Drawn0.step)⟩

/-! ### spec_l3Two: function 62 -/
def spec_l3Two.f (a0 : Int) : Option (Bool) := (spec_l1In.f a0 3 9).bind fun t101 => (some t101)
set_option maxHeartbeats 8000000 in
set_option maxRecDepth 100000 in
theorem spec_l3Two.calls (a0 : Int) (r : Bool) (w : World) (h : spec_l3Two.f a0 = some r) :
    Calls Try.prog 62 #[.int .i64 a0] w fun e w' => e = .returned (.bool r) ∧ Drawn0 w w' := by
  have H : ((spec_l1In.f a0 3 9).bind fun t101 => (some t101)) = some r := h
  clear h
  replace H := Option.bind_eq_some_iff.mp H
  obtain ⟨t101, A20, H⟩ := H
  replace H : (some t101) = some r := H
  have A2 := Aside0.mk A20
  clear A20
  obtain rfl := Option.some.inj H
  go_enter Try.func62, Try.ntmps62
  go_wp2_with (first | ((with_reducible refine gate_callee (f := 49) rfl ?_); refine goesL_ (some 4) rfl rfl Try.func49 (by kernel_rfl) rfl #[.int .i64 a0, .int .i64 3, .int .i64 9] rfl (by (try simp only [List.map_toArray, List.map_cons, List.map_nil]); first | done | rfl | (simp only [List.length_drop, List.length_take]; rfl)) ?_; (with_reducible refine (spec_l1In.calls a0 3 9 t101 _ A2.out).mono ?_); rintro e w' ⟨rfl, ⟨nd, rfl⟩⟩; refine ⟨_, rfl, ?_⟩))
  go_ret
  exact ⟨by first | rfl | (simp; done) | (simp [*]; done), by repeat (first | exact Drawn0.refl _ | apply Drawn0.step)⟩

/-! ### spec_l3Node: function 52 -/
mutual
def spec_l3Node.j0 : Nat → S54 → Int → Bool → Bool → Option (Int)
  | 0, _, _, _, _ => none
  | k + 1, x0, x1, x5, x56 => if x56 = true then (some 1) else (if ((rd_T54 [x0] 0).f0) = 1 then ((spec_l1In.f ((rd_T54 [x0] 0).f1) 0 9999).bind fun t105 => (if t105 = true then (if ((rd_T54 [x0] 0).f0) = 2 then ((spec_l1In.f ((rd_T54 [x0] 0).f1) 0 3).bind fun t106 => (spec_l3Node.j1 k x0 x1 x5 (!t106))) else (spec_l3Node.j1 k x0 x1 x5 false)) else (spec_l3Node.j1 k x0 x1 x5 true))) else (if ((rd_T54 [x0] 0).f0) = 2 then ((spec_l1In.f ((rd_T54 [x0] 0).f1) 0 3).bind fun t107 => (spec_l3Node.j1 k x0 x1 x5 (!t107))) else (spec_l3Node.j1 k x0 x1 x5 false)))
def spec_l3Node.j1 : Nat → S54 → Int → Bool → Bool → Option (Int)
  | 0, _, _, _, _ => none
  | k + 1, x0, x1, x5, x84 => if x84 = true then (some 3) else (if x5 = true then ((spec_l3Two.f ((rd_T54 [x0] 0).f0)).bind fun t109 => (if t109 = true then ((spec_l1In.f ((rd_T54 [x0] 0).f3) 0 (wrap64 (x1 - 1))).bind fun t110 => (if t110 = true then (some 0) else (some 3))) else (some 0))) else ((spec_l1In.f ((rd_T54 [x0] 0).f2) 0 (wrap64 (x1 - 1))).bind fun t112 => (if t112 = true then ((spec_l3Two.f ((rd_T54 [x0] 0).f0)).bind fun t113 => (if t113 = true then ((spec_l1In.f ((rd_T54 [x0] 0).f3) 0 (wrap64 (x1 - 1))).bind fun t114 => (if t114 = true then (some 0) else (some 3))) else (some 0))) else (some 3))))
end
def spec_l3Node.f (k : Nat) (a0 : S54) (a1 : Int) : Option (Int) := (spec_l1In.f ((rd_T54 [a0] 0).f0) 1 10).bind fun t103 => (if t103 = true then (if ((rd_T54 [a0] 0).f0) ≤ 2 then (if ((rd_T54 [a0] 0).f2) = 0 then (if ((rd_T54 [a0] 0).f3) = 0 then (if ((rd_T54 [a0] 0).f0) = 10 then (spec_l3Node.j0 k a0 a1 (decide (((rd_T54 [a0] 0).f0) ≤ 2)) (((rd_T54 [a0] 0).f3) != 0)) else (spec_l3Node.j0 k a0 a1 (decide (((rd_T54 [a0] 0).f0) ≤ 2)) false)) else (spec_l3Node.j0 k a0 a1 (decide (((rd_T54 [a0] 0).f0) ≤ 2)) true)) else (spec_l3Node.j0 k a0 a1 (decide (((rd_T54 [a0] 0).f0) ≤ 2)) true)) else (if ((rd_T54 [a0] 0).f1) = 0 then (if ((rd_T54 [a0] 0).f0) = 10 then (spec_l3Node.j0 k a0 a1 (decide (((rd_T54 [a0] 0).f0) ≤ 2)) (((rd_T54 [a0] 0).f3) != 0)) else (spec_l3Node.j0 k a0 a1 (decide (((rd_T54 [a0] 0).f0) ≤ 2)) false)) else (spec_l3Node.j0 k a0 a1 (decide (((rd_T54 [a0] 0).f0) ≤ 2)) true))) else (some 1))
theorem spec_l3Node.mono_l : ∀ k, (∀ y0 y1 y2 y3, LeO (spec_l3Node.j0 k y0 y1 y2 y3) (spec_l3Node.j0 (k + 1) y0 y1 y2 y3)) ∧ (∀ y0 y1 y2 y3, LeO (spec_l3Node.j1 k y0 y1 y2 y3) (spec_l3Node.j1 (k + 1) y0 y1 y2 y3))
  | 0 => ⟨fun _ _ _ _ r h => by simp [spec_l3Node.j0] at h, fun _ _ _ _ r h => by simp [spec_l3Node.j1] at h⟩
  | k + 1 => by
    obtain ⟨ih0, ih1⟩ := spec_l3Node.mono_l k
    refine ⟨?_, ?_⟩
    · intro y0 y1 y2 y3
      unfold spec_l3Node.j0
      repeat' first
      | (with_reducible exact ih0 _ _ _ _)
      | (with_reducible exact ih1 _ _ _ _)
      | (with_reducible exact LeO.refl _)
      | (with_reducible exact LeO.none _)
      | (with_reducible refine LeO.ite ?_ ?_)
      | (with_reducible refine LeO.bind ?_ (fun _ => ?_))
      | exact ih0 _ _ _ _
      | exact ih1 _ _ _ _
      | exact LeO.none _
      | refine LeO.ite ?_ ?_
      | refine LeO.bind ?_ (fun _ => ?_)
    · intro y0 y1 y2 y3
      unfold spec_l3Node.j1
      repeat' first
      | (with_reducible exact ih0 _ _ _ _)
      | (with_reducible exact ih1 _ _ _ _)
      | (with_reducible exact LeO.refl _)
      | (with_reducible exact LeO.none _)
      | (with_reducible refine LeO.ite ?_ ?_)
      | (with_reducible refine LeO.bind ?_ (fun _ => ?_))
      | exact ih0 _ _ _ _
      | exact ih1 _ _ _ _
      | exact LeO.none _
      | refine LeO.ite ?_ ?_
      | refine LeO.bind ?_ (fun _ => ?_)
theorem spec_l3Node.mono : ∀ a0 a1 k, LeO (spec_l3Node.f k a0 a1) (spec_l3Node.f (k + 1) a0 a1) := by
  intro a0 a1 k
  obtain ⟨ih0, ih1⟩ := spec_l3Node.mono_l k
  unfold spec_l3Node.f
  repeat' first
      | (with_reducible exact ih0 _ _ _ _)
      | (with_reducible exact ih1 _ _ _ _)
      | (with_reducible exact LeO.refl _)
      | (with_reducible exact LeO.none _)
      | (with_reducible refine LeO.ite ?_ ?_)
      | (with_reducible refine LeO.bind ?_ (fun _ => ?_))
      | exact ih0 _ _ _ _
      | exact ih1 _ _ _ _
      | exact LeO.none _
      | refine LeO.ite ?_ ?_
      | refine LeO.bind ?_ (fun _ => ?_)
set_option maxHeartbeats 8000000 in
set_option maxRecDepth 100000 in
theorem spec_l3Node.calls (k : Nat) (adp0 : Addr) (a0 : S54) (a1 : Int) (r : Int) (w : World) (hr0 : Kd.C k54 w (some adp0) 1 [a0]) (h : spec_l3Node.f k a0 a1 = some r) :
    Calls Try.prog 52 #[.pointer (some adp0), .int .i64 a1] w fun e w' => e = .returned (.int .i64 r) ∧ Drawn0 w w' := by
  have HR0 := Aside0.mk hr0
  clear hr0
  have H : ((spec_l1In.f ((rd_T54 [a0] 0).f0) 1 10).bind fun t103 => (if t103 = true then (if ((rd_T54 [a0] 0).f0) ≤ 2 then (if ((rd_T54 [a0] 0).f2) = 0 then (if ((rd_T54 [a0] 0).f3) = 0 then (if ((rd_T54 [a0] 0).f0) = 10 then (spec_l3Node.j0 k a0 a1 (decide (((rd_T54 [a0] 0).f0) ≤ 2)) (((rd_T54 [a0] 0).f3) != 0)) else (spec_l3Node.j0 k a0 a1 (decide (((rd_T54 [a0] 0).f0) ≤ 2)) false)) else (spec_l3Node.j0 k a0 a1 (decide (((rd_T54 [a0] 0).f0) ≤ 2)) true)) else (spec_l3Node.j0 k a0 a1 (decide (((rd_T54 [a0] 0).f0) ≤ 2)) true)) else (if ((rd_T54 [a0] 0).f1) = 0 then (if ((rd_T54 [a0] 0).f0) = 10 then (spec_l3Node.j0 k a0 a1 (decide (((rd_T54 [a0] 0).f0) ≤ 2)) (((rd_T54 [a0] 0).f3) != 0)) else (spec_l3Node.j0 k a0 a1 (decide (((rd_T54 [a0] 0).f0) ≤ 2)) false)) else (spec_l3Node.j0 k a0 a1 (decide (((rd_T54 [a0] 0).f0) ≤ 2)) true))) else (some 1))) = some r := h
  clear h
  replace H := Option.bind_eq_some_iff.mp H
  obtain ⟨t103, A30, H⟩ := H
  replace H : (if t103 = true then (if ((rd_T54 [a0] 0).f0) ≤ 2 then (if ((rd_T54 [a0] 0).f2) = 0 then (if ((rd_T54 [a0] 0).f3) = 0 then (if ((rd_T54 [a0] 0).f0) = 10 then (spec_l3Node.j0 k a0 a1 (decide (((rd_T54 [a0] 0).f0) ≤ 2)) (((rd_T54 [a0] 0).f3) != 0)) else (spec_l3Node.j0 k a0 a1 (decide (((rd_T54 [a0] 0).f0) ≤ 2)) false)) else (spec_l3Node.j0 k a0 a1 (decide (((rd_T54 [a0] 0).f0) ≤ 2)) true)) else (spec_l3Node.j0 k a0 a1 (decide (((rd_T54 [a0] 0).f0) ≤ 2)) true)) else (if ((rd_T54 [a0] 0).f1) = 0 then (if ((rd_T54 [a0] 0).f0) = 10 then (spec_l3Node.j0 k a0 a1 (decide (((rd_T54 [a0] 0).f0) ≤ 2)) (((rd_T54 [a0] 0).f3) != 0)) else (spec_l3Node.j0 k a0 a1 (decide (((rd_T54 [a0] 0).f0) ≤ 2)) false)) else (spec_l3Node.j0 k a0 a1 (decide (((rd_T54 [a0] 0).f0) ≤ 2)) true))) else (some 1)) = some r := H
  have A3 := Aside0.mk A30
  clear A30
  by_cases c4 : t103 = true
  · subst c4
    have H1 : (if ((rd_T54 [a0] 0).f0) ≤ 2 then (if ((rd_T54 [a0] 0).f2) = 0 then (if ((rd_T54 [a0] 0).f3) = 0 then (if ((rd_T54 [a0] 0).f0) = 10 then (spec_l3Node.j0 k a0 a1 (decide (((rd_T54 [a0] 0).f0) ≤ 2)) (((rd_T54 [a0] 0).f3) != 0)) else (spec_l3Node.j0 k a0 a1 (decide (((rd_T54 [a0] 0).f0) ≤ 2)) false)) else (spec_l3Node.j0 k a0 a1 (decide (((rd_T54 [a0] 0).f0) ≤ 2)) true)) else (spec_l3Node.j0 k a0 a1 (decide (((rd_T54 [a0] 0).f0) ≤ 2)) true)) else (if ((rd_T54 [a0] 0).f1) = 0 then (if ((rd_T54 [a0] 0).f0) = 10 then (spec_l3Node.j0 k a0 a1 (decide (((rd_T54 [a0] 0).f0) ≤ 2)) (((rd_T54 [a0] 0).f3) != 0)) else (spec_l3Node.j0 k a0 a1 (decide (((rd_T54 [a0] 0).f0) ≤ 2)) false)) else (spec_l3Node.j0 k a0 a1 (decide (((rd_T54 [a0] 0).f0) ≤ 2)) true))) = some r := by rw [if_pos rfl] at H; exact H
    clear H
    have H := H1
    clear H1
    have HC5 := Aside0.mk H
    clear H
    have p102 : 0 ≤ (0 : Int) := (by omega)
    have q102 : 0 < ([a0].length : Int) := (by simp)
    obtain ⟨ad102, e102, hx102_0, hx102_1, hx102_2, hx102_3⟩ := at_T54 HR0.out 0 p102 q102
    obtain rfl : adp0 = ad102 := (by injection e102)
    have qi102 : (0 < [a0].length) = True := eq_true (by omega)
    (try rw [show ((0 : Int)).toNat = 0 from rfl] at hx102_0)
    (try rw [show 0 * 4 = 0 from rfl] at hx102_0)
    (try rw [Addr.add_zero'] at hx102_0)
    (try rw [show ((0 : Int)).toNat = 0 from rfl] at hx102_1)
    (try rw [show 0 * 4 = 0 from rfl] at hx102_1)
    (try rw [Addr.add_zero'] at hx102_1)
    (try rw [show ((0 : Int)).toNat = 0 from rfl] at hx102_2)
    (try rw [show 0 * 4 = 0 from rfl] at hx102_2)
    (try rw [Addr.add_zero'] at hx102_2)
    (try rw [show ((0 : Int)).toNat = 0 from rfl] at hx102_3)
    (try rw [show 0 * 4 = 0 from rfl] at hx102_3)
    (try rw [Addr.add_zero'] at hx102_3)
    replace p102 := eq_true p102
    replace q102 := eq_true q102
    go_enter Try.func52, Try.ntmps52
    go_upto_region 4 with (first | ((with_reducible refine gate_callee (f := 49) rfl ?_); refine goesL_ (some 10) rfl rfl Try.func49 (by kernel_rfl) rfl #[.int .i64 ((rd_T54 [a0] 0).f0), .int .i64 1, .int .i64 10] rfl (by (try simp only [List.map_toArray, List.map_cons, List.map_nil]); first | done | rfl | (simp only [List.length_drop, List.length_take]; rfl)) ?_; (with_reducible refine (spec_l1In.calls ((rd_T54 [a0] 0).f0) 1 10 true _ A3.out).mono ?_); rintro e w' ⟨rfl, ⟨nd, rfl⟩⟩; refine ⟨_, rfl, ?_⟩))
    (try simp only [Act.put, List.setIfInBounds_toArray, List.set_cons_zero, List.set_cons_succ])
    go_cut [5, 56] (fun v5 v56 wc => ∃ (kq : Nat) (x5_4 : Bool) (x56_4 : Bool), v5 = .bool x5_4 ∧ v56 = .bool x56_4 ∧ Aside0 (spec_l3Node.j0 kq a0 a1 x5_4 x56_4 = some r) ∧ Aside0 (kq ≤ k) ∧ Drawn0 w wc)
    case first =>
      have H := HC5.out
      clear HC5
      by_cases c6 : ((rd_T54 [a0] 0).f0) ≤ 2
      · rw [if_pos c6] at H
        have c6b0 : decide (((rd_T54 [a0] 0).f0) ≤ 2) = true := decide_eq_true c6
        clear c6
        (first | rw [c6b0] | (simp only [i64_w, i32_w]; rw [c6b0]) | skip)
        by_cases c7 : ((rd_T54 [a0] 0).f2) = 0
        · rw [if_pos c7] at H
          have c7b0 : (((rd_T54 [a0] 0).f2) == 0) = true := beq_iff_eq.mpr c7
          have c7b1 : (((rd_T54 [a0] 0).f2) != 0) = false := bne_eq_false_iff_eq.mpr c7
          clear c7
          by_cases c8 : ((rd_T54 [a0] 0).f3) = 0
          · rw [if_pos c8] at H
            have c8b0 : (((rd_T54 [a0] 0).f3) == 0) = true := beq_iff_eq.mpr c8
            have c8b1 : (((rd_T54 [a0] 0).f3) != 0) = false := bne_eq_false_iff_eq.mpr c8
            clear c8
            by_cases c9 : ((rd_T54 [a0] 0).f0) = 10
            · rw [if_pos c9] at H
              have c9b0 : (((rd_T54 [a0] 0).f0) == 10) = true := beq_iff_eq.mpr c9
              have c9b1 : (((rd_T54 [a0] 0).f0) != 10) = false := bne_eq_false_iff_eq.mpr c9
              clear c9
              have H' := Aside0.mk H
              clear H
              go_wp2
              go_meet
              case rel => exact ⟨_, (decide (((rd_T54 [a0] 0).f0) ≤ 2)), ((((rd_T54 [a0] 0).f3) != 0)), (by first | rfl | (simp; done) | (simp [*]; done)), (by first | rfl | (simp; done) | (simp [*]; done)), H', ⟨by first | omega | exact Nat.le_refl _⟩, by repeat (first | exact Drawn0.refl _ | apply Drawn0.step)⟩
            · rw [if_neg c9] at H
              have c9b0 : (((rd_T54 [a0] 0).f0) == 10) = false := beq_eq_false_iff_ne.mpr c9
              have c9b1 : (((rd_T54 [a0] 0).f0) != 10) = true := bne_iff_ne.mpr c9
              have H' := Aside0.mk H
              clear H
              go_wp2
              go_meet
              case rel => exact ⟨_, (decide (((rd_T54 [a0] 0).f0) ≤ 2)), (false), (by first | rfl | (simp; done) | (simp [*]; done)), (by first | rfl | (simp; done) | (simp [*]; done)), H', ⟨by first | omega | exact Nat.le_refl _⟩, by repeat (first | exact Drawn0.refl _ | apply Drawn0.step)⟩
          · rw [if_neg c8] at H
            have c8b0 : (((rd_T54 [a0] 0).f3) == 0) = false := beq_eq_false_iff_ne.mpr c8
            have c8b1 : (((rd_T54 [a0] 0).f3) != 0) = true := bne_iff_ne.mpr c8
            have H' := Aside0.mk H
            clear H
            go_wp2
            go_meet
            case rel => exact ⟨_, (decide (((rd_T54 [a0] 0).f0) ≤ 2)), (true), (by first | rfl | (simp; done) | (simp [*]; done)), (by first | rfl | (simp; done) | (simp [*]; done)), H', ⟨by first | omega | exact Nat.le_refl _⟩, by repeat (first | exact Drawn0.refl _ | apply Drawn0.step)⟩
        · rw [if_neg c7] at H
          have c7b0 : (((rd_T54 [a0] 0).f2) == 0) = false := beq_eq_false_iff_ne.mpr c7
          have c7b1 : (((rd_T54 [a0] 0).f2) != 0) = true := bne_iff_ne.mpr c7
          have H' := Aside0.mk H
          clear H
          go_wp2
          go_meet
          case rel => exact ⟨_, (decide (((rd_T54 [a0] 0).f0) ≤ 2)), (true), (by first | rfl | (simp; done) | (simp [*]; done)), (by first | rfl | (simp; done) | (simp [*]; done)), H', ⟨by first | omega | exact Nat.le_refl _⟩, by repeat (first | exact Drawn0.refl _ | apply Drawn0.step)⟩
      · rw [if_neg c6] at H
        have c6b0 : decide (((rd_T54 [a0] 0).f0) ≤ 2) = false := decide_eq_false c6
        clear c6
        (first | rw [c6b0] | (simp only [i64_w, i32_w]; rw [c6b0]) | skip)
        by_cases c10 : ((rd_T54 [a0] 0).f1) = 0
        · rw [if_pos c10] at H
          have c10b0 : (((rd_T54 [a0] 0).f1) == 0) = true := beq_iff_eq.mpr c10
          have c10b1 : (((rd_T54 [a0] 0).f1) != 0) = false := bne_eq_false_iff_eq.mpr c10
          clear c10
          by_cases c11 : ((rd_T54 [a0] 0).f0) = 10
          · rw [if_pos c11] at H
            have c11b0 : (((rd_T54 [a0] 0).f0) == 10) = true := beq_iff_eq.mpr c11
            have c11b1 : (((rd_T54 [a0] 0).f0) != 10) = false := bne_eq_false_iff_eq.mpr c11
            clear c11
            have H' := Aside0.mk H
            clear H
            go_wp2
            go_meet
            case rel => exact ⟨_, (decide (((rd_T54 [a0] 0).f0) ≤ 2)), ((((rd_T54 [a0] 0).f3) != 0)), (by first | rfl | (simp; done) | (simp [*]; done)), (by first | rfl | (simp; done) | (simp [*]; done)), H', ⟨by first | omega | exact Nat.le_refl _⟩, by repeat (first | exact Drawn0.refl _ | apply Drawn0.step)⟩
          · rw [if_neg c11] at H
            have c11b0 : (((rd_T54 [a0] 0).f0) == 10) = false := beq_eq_false_iff_ne.mpr c11
            have c11b1 : (((rd_T54 [a0] 0).f0) != 10) = true := bne_iff_ne.mpr c11
            have H' := Aside0.mk H
            clear H
            go_wp2
            go_meet
            case rel => exact ⟨_, (decide (((rd_T54 [a0] 0).f0) ≤ 2)), (false), (by first | rfl | (simp; done) | (simp [*]; done)), (by first | rfl | (simp; done) | (simp [*]; done)), H', ⟨by first | omega | exact Nat.le_refl _⟩, by repeat (first | exact Drawn0.refl _ | apply Drawn0.step)⟩
        · rw [if_neg c10] at H
          have c10b0 : (((rd_T54 [a0] 0).f1) == 0) = false := beq_eq_false_iff_ne.mpr c10
          have c10b1 : (((rd_T54 [a0] 0).f1) != 0) = true := bne_iff_ne.mpr c10
          have H' := Aside0.mk H
          clear H
          go_wp2
          go_meet
          case rel => exact ⟨_, (decide (((rd_T54 [a0] 0).f0) ≤ 2)), (true), (by first | rfl | (simp; done) | (simp [*]; done)), (by first | rfl | (simp; done) | (simp [*]; done)), H', ⟨by first | omega | exact Nat.le_refl _⟩, by repeat (first | exact Drawn0.refl _ | apply Drawn0.step)⟩
    case rest =>
      clear HC5
      try clear c1
      try clear p1
      try clear q1
      try clear hx1
      try clear qi1
      try clear p2
      try clear c4
      try clear c5
      try clear c6
      try clear c6b0
      try clear c7
      try clear c7b0
      try clear c7b1
      try clear c8
      try clear c8b0
      try clear c8b1
      try clear c9
      try clear c9b0
      try clear c9b1
      try clear c10
      try clear c10b0
      try clear c10b1
      try clear p10
      try clear q10
      try clear hx10
      try clear qi10
      try clear c11
      try clear c11b0
      try clear c11b1
      try clear hx102_0
      try clear hx102_1
      try clear hx102_2
      try clear hx102_3
      try clear p102
      try clear q102
      obtain ⟨kq, x5_4, x56_4, rfl, rfl, HA, HJ4, ⟨mc4, rfl⟩⟩ := hcut
      cases kq with
      | zero => exact absurd HA.out (by simp [spec_l3Node.j0])
      | succ kj4 =>
        have H := HA.out
        clear HA
        simp only [spec_l3Node.j0] at H
        by_cases c12 : x56_4 = true
        · subst c12
          have H1 : (some 1) = some r := by rw [if_pos rfl] at H; exact H
          clear H
          have H := H1
          clear H1
          obtain rfl := Option.some.inj H
          go_wp2
          go_ret
          exact ⟨by first | rfl | (simp; done) | (simp [*]; done), by repeat (first | exact Drawn0.refl _ | apply Drawn0.step)⟩
        · replace c12 := Bool.eq_false_iff.mpr c12
          subst c12
          have H1 : (if ((rd_T54 [a0] 0).f0) = 1 then ((spec_l1In.f ((rd_T54 [a0] 0).f1) 0 9999).bind fun t105 => (if t105 = true then (if ((rd_T54 [a0] 0).f0) = 2 then ((spec_l1In.f ((rd_T54 [a0] 0).f1) 0 3).bind fun t106 => (spec_l3Node.j1 kj4 a0 a1 x5_4 (!t106))) else (spec_l3Node.j1 kj4 a0 a1 x5_4 false)) else (spec_l3Node.j1 kj4 a0 a1 x5_4 true))) else (if ((rd_T54 [a0] 0).f0) = 2 then ((spec_l1In.f ((rd_T54 [a0] 0).f1) 0 3).bind fun t107 => (spec_l3Node.j1 kj4 a0 a1 x5_4 (!t107))) else (spec_l3Node.j1 kj4 a0 a1 x5_4 false))) = some r := by rw [if_neg (show ¬ (false = true) by decide)] at H; exact H
          clear H
          have H := H1
          clear H1
          have HC13 := Aside0.mk H
          clear H
          go_upto_region 6 with (fail)
          go_cut [5, 84] (fun v5 v84 wc => ∃ (kq : Nat) (x5_12 : Bool) (x84_12 : Bool), v5 = .bool x5_12 ∧ v84 = .bool x84_12 ∧ Aside0 (spec_l3Node.j1 kq a0 a1 x5_12 x84_12 = some r) ∧ Aside0 (kq ≤ kj4) ∧ Drawn0 w wc)
          case first =>
            have H := HC13.out
            clear HC13
            by_cases c14 : ((rd_T54 [a0] 0).f0) = 1
            · rw [if_pos c14] at H
              have c14b0 : (((rd_T54 [a0] 0).f0) == 1) = true := beq_iff_eq.mpr c14
              have c14b1 : (((rd_T54 [a0] 0).f0) != 1) = false := bne_eq_false_iff_eq.mpr c14
              clear c14
              (first | rw [c14b0] | (simp only [i64_w, i32_w]; rw [c14b0]) | skip)
              replace H := Option.bind_eq_some_iff.mp H
              obtain ⟨t105, A150, H⟩ := H
              replace H : (if t105 = true then (if ((rd_T54 [a0] 0).f0) = 2 then ((spec_l1In.f ((rd_T54 [a0] 0).f1) 0 3).bind fun t106 => (spec_l3Node.j1 kj4 a0 a1 x5_4 (!t106))) else (spec_l3Node.j1 kj4 a0 a1 x5_4 false)) else (spec_l3Node.j1 kj4 a0 a1 x5_4 true)) = some r := H
              have A15 := Aside0.mk A150
              clear A150
              by_cases c16 : t105 = true
              · subst c16
                have H1 : (if ((rd_T54 [a0] 0).f0) = 2 then ((spec_l1In.f ((rd_T54 [a0] 0).f1) 0 3).bind fun t106 => (spec_l3Node.j1 kj4 a0 a1 x5_4 (!t106))) else (spec_l3Node.j1 kj4 a0 a1 x5_4 false)) = some r := by rw [if_pos rfl] at H; exact H
                clear H
                have H := H1
                clear H1
                by_cases c17 : ((rd_T54 [a0] 0).f0) = 2
                · rw [if_pos c17] at H
                  have c17b0 : (((rd_T54 [a0] 0).f0) == 2) = true := beq_iff_eq.mpr c17
                  have c17b1 : (((rd_T54 [a0] 0).f0) != 2) = false := bne_eq_false_iff_eq.mpr c17
                  clear c17
                  replace H := Option.bind_eq_some_iff.mp H
                  obtain ⟨t106, A180, H⟩ := H
                  replace H : (spec_l3Node.j1 kj4 a0 a1 x5_4 (!t106)) = some r := H
                  have A18 := Aside0.mk A180
                  clear A180
                  have H' := Aside0.mk H
                  clear H
                  have p104 : 0 ≤ (0 : Int) := (by omega)
                  have q104 : 0 < ([a0].length : Int) := (by simp)
                  obtain ⟨ad104, e104, hx104_0, hx104_1, hx104_2, hx104_3⟩ := at_T54 HR0.out 0 p104 q104
                  obtain rfl : adp0 = ad104 := (by injection e104)
                  have qi104 : (0 < [a0].length) = True := eq_true (by omega)
                  (try rw [show ((0 : Int)).toNat = 0 from rfl] at hx104_0)
                  (try rw [show 0 * 4 = 0 from rfl] at hx104_0)
                  (try rw [Addr.add_zero'] at hx104_0)
                  (try rw [show ((0 : Int)).toNat = 0 from rfl] at hx104_1)
                  (try rw [show 0 * 4 = 0 from rfl] at hx104_1)
                  (try rw [Addr.add_zero'] at hx104_1)
                  (try rw [show ((0 : Int)).toNat = 0 from rfl] at hx104_2)
                  (try rw [show 0 * 4 = 0 from rfl] at hx104_2)
                  (try rw [Addr.add_zero'] at hx104_2)
                  (try rw [show ((0 : Int)).toNat = 0 from rfl] at hx104_3)
                  (try rw [show 0 * 4 = 0 from rfl] at hx104_3)
                  (try rw [Addr.add_zero'] at hx104_3)
                  replace p104 := eq_true p104
                  replace q104 := eq_true q104
                  go_wp2_with (first | (go_at_call 49; (with_reducible refine (spec_l1In.calls ((rd_T54 [a0] 0).f1) 0 9999 true _ A15.out).mono ?_); rintro e w' ⟨rfl, ⟨nd, rfl⟩⟩) | (go_at_call 49; (with_reducible refine (spec_l1In.calls ((rd_T54 [a0] 0).f1) 0 3 t106 _ A18.out).mono ?_); rintro e w' ⟨rfl, ⟨nd, rfl⟩⟩))
                  go_meet
                  case rel => exact ⟨_, (x5_4), (!t106), (by first | rfl | (simp; done) | (simp [*]; done)), (by first | rfl | (simp; done) | (simp [*]; done)), H', ⟨by have := HJ4.out; first | omega | exact Nat.le_refl _⟩, by repeat (first | exact Drawn0.refl _ | apply Drawn0.step)⟩
                · rw [if_neg c17] at H
                  have c17b0 : (((rd_T54 [a0] 0).f0) == 2) = false := beq_eq_false_iff_ne.mpr c17
                  have c17b1 : (((rd_T54 [a0] 0).f0) != 2) = true := bne_iff_ne.mpr c17
                  have H' := Aside0.mk H
                  clear H
                  have p104 : 0 ≤ (0 : Int) := (by omega)
                  have q104 : 0 < ([a0].length : Int) := (by simp)
                  obtain ⟨ad104, e104, hx104_0, hx104_1, hx104_2, hx104_3⟩ := at_T54 HR0.out 0 p104 q104
                  obtain rfl : adp0 = ad104 := (by injection e104)
                  have qi104 : (0 < [a0].length) = True := eq_true (by omega)
                  (try rw [show ((0 : Int)).toNat = 0 from rfl] at hx104_0)
                  (try rw [show 0 * 4 = 0 from rfl] at hx104_0)
                  (try rw [Addr.add_zero'] at hx104_0)
                  (try rw [show ((0 : Int)).toNat = 0 from rfl] at hx104_1)
                  (try rw [show 0 * 4 = 0 from rfl] at hx104_1)
                  (try rw [Addr.add_zero'] at hx104_1)
                  (try rw [show ((0 : Int)).toNat = 0 from rfl] at hx104_2)
                  (try rw [show 0 * 4 = 0 from rfl] at hx104_2)
                  (try rw [Addr.add_zero'] at hx104_2)
                  (try rw [show ((0 : Int)).toNat = 0 from rfl] at hx104_3)
                  (try rw [show 0 * 4 = 0 from rfl] at hx104_3)
                  (try rw [Addr.add_zero'] at hx104_3)
                  replace p104 := eq_true p104
                  replace q104 := eq_true q104
                  go_wp2_with (first | (go_at_call 49; (with_reducible refine (spec_l1In.calls ((rd_T54 [a0] 0).f1) 0 9999 true _ A15.out).mono ?_); rintro e w' ⟨rfl, ⟨nd, rfl⟩⟩))
                  go_meet
                  case rel => exact ⟨_, (x5_4), (false), (by first | rfl | (simp; done) | (simp [*]; done)), (by first | rfl | (simp; done) | (simp [*]; done)), H', ⟨by have := HJ4.out; first | omega | exact Nat.le_refl _⟩, by repeat (first | exact Drawn0.refl _ | apply Drawn0.step)⟩
              · replace c16 := Bool.eq_false_iff.mpr c16
                subst c16
                have H1 : (spec_l3Node.j1 kj4 a0 a1 x5_4 true) = some r := by rw [if_neg (show ¬ (false = true) by decide)] at H; exact H
                clear H
                have H := H1
                clear H1
                have H' := Aside0.mk H
                clear H
                have p104 : 0 ≤ (0 : Int) := (by omega)
                have q104 : 0 < ([a0].length : Int) := (by simp)
                obtain ⟨ad104, e104, hx104_0, hx104_1, hx104_2, hx104_3⟩ := at_T54 HR0.out 0 p104 q104
                obtain rfl : adp0 = ad104 := (by injection e104)
                have qi104 : (0 < [a0].length) = True := eq_true (by omega)
                (try rw [show ((0 : Int)).toNat = 0 from rfl] at hx104_0)
                (try rw [show 0 * 4 = 0 from rfl] at hx104_0)
                (try rw [Addr.add_zero'] at hx104_0)
                (try rw [show ((0 : Int)).toNat = 0 from rfl] at hx104_1)
                (try rw [show 0 * 4 = 0 from rfl] at hx104_1)
                (try rw [Addr.add_zero'] at hx104_1)
                (try rw [show ((0 : Int)).toNat = 0 from rfl] at hx104_2)
                (try rw [show 0 * 4 = 0 from rfl] at hx104_2)
                (try rw [Addr.add_zero'] at hx104_2)
                (try rw [show ((0 : Int)).toNat = 0 from rfl] at hx104_3)
                (try rw [show 0 * 4 = 0 from rfl] at hx104_3)
                (try rw [Addr.add_zero'] at hx104_3)
                replace p104 := eq_true p104
                replace q104 := eq_true q104
                go_wp2_with (first | (go_at_call 49; (with_reducible refine (spec_l1In.calls ((rd_T54 [a0] 0).f1) 0 9999 false _ A15.out).mono ?_); rintro e w' ⟨rfl, ⟨nd, rfl⟩⟩))
                go_meet
                case rel => exact ⟨_, (x5_4), (true), (by first | rfl | (simp; done) | (simp [*]; done)), (by first | rfl | (simp; done) | (simp [*]; done)), H', ⟨by have := HJ4.out; first | omega | exact Nat.le_refl _⟩, by repeat (first | exact Drawn0.refl _ | apply Drawn0.step)⟩
            · rw [if_neg c14] at H
              have c14b0 : (((rd_T54 [a0] 0).f0) == 1) = false := beq_eq_false_iff_ne.mpr c14
              have c14b1 : (((rd_T54 [a0] 0).f0) != 1) = true := bne_iff_ne.mpr c14
              (first | rw [c14b0] | (simp only [i64_w, i32_w]; rw [c14b0]) | skip)
              by_cases c19 : ((rd_T54 [a0] 0).f0) = 2
              · rw [if_pos c19] at H
                have c19b0 : (((rd_T54 [a0] 0).f0) == 2) = true := beq_iff_eq.mpr c19
                have c19b1 : (((rd_T54 [a0] 0).f0) != 2) = false := bne_eq_false_iff_eq.mpr c19
                clear c19
                replace H := Option.bind_eq_some_iff.mp H
                obtain ⟨t107, A200, H⟩ := H
                replace H : (spec_l3Node.j1 kj4 a0 a1 x5_4 (!t107)) = some r := H
                have A20 := Aside0.mk A200
                clear A200
                have H' := Aside0.mk H
                clear H
                have p104 : 0 ≤ (0 : Int) := (by omega)
                have q104 : 0 < ([a0].length : Int) := (by simp)
                obtain ⟨ad104, e104, hx104_0, hx104_1, hx104_2, hx104_3⟩ := at_T54 HR0.out 0 p104 q104
                obtain rfl : adp0 = ad104 := (by injection e104)
                have qi104 : (0 < [a0].length) = True := eq_true (by omega)
                (try rw [show ((0 : Int)).toNat = 0 from rfl] at hx104_0)
                (try rw [show 0 * 4 = 0 from rfl] at hx104_0)
                (try rw [Addr.add_zero'] at hx104_0)
                (try rw [show ((0 : Int)).toNat = 0 from rfl] at hx104_1)
                (try rw [show 0 * 4 = 0 from rfl] at hx104_1)
                (try rw [Addr.add_zero'] at hx104_1)
                (try rw [show ((0 : Int)).toNat = 0 from rfl] at hx104_2)
                (try rw [show 0 * 4 = 0 from rfl] at hx104_2)
                (try rw [Addr.add_zero'] at hx104_2)
                (try rw [show ((0 : Int)).toNat = 0 from rfl] at hx104_3)
                (try rw [show 0 * 4 = 0 from rfl] at hx104_3)
                (try rw [Addr.add_zero'] at hx104_3)
                replace p104 := eq_true p104
                replace q104 := eq_true q104
                go_wp2_with (first | (go_at_call 49; (with_reducible refine (spec_l1In.calls ((rd_T54 [a0] 0).f1) 0 3 t107 _ A20.out).mono ?_); rintro e w' ⟨rfl, ⟨nd, rfl⟩⟩))
                go_meet
                case rel => exact ⟨_, (x5_4), (!t107), (by first | rfl | (simp; done) | (simp [*]; done)), (by first | rfl | (simp; done) | (simp [*]; done)), H', ⟨by have := HJ4.out; first | omega | exact Nat.le_refl _⟩, by repeat (first | exact Drawn0.refl _ | apply Drawn0.step)⟩
              · rw [if_neg c19] at H
                have c19b0 : (((rd_T54 [a0] 0).f0) == 2) = false := beq_eq_false_iff_ne.mpr c19
                have c19b1 : (((rd_T54 [a0] 0).f0) != 2) = true := bne_iff_ne.mpr c19
                have H' := Aside0.mk H
                clear H
                have p104 : 0 ≤ (0 : Int) := (by omega)
                have q104 : 0 < ([a0].length : Int) := (by simp)
                obtain ⟨ad104, e104, hx104_0, hx104_1, hx104_2, hx104_3⟩ := at_T54 HR0.out 0 p104 q104
                obtain rfl : adp0 = ad104 := (by injection e104)
                have qi104 : (0 < [a0].length) = True := eq_true (by omega)
                (try rw [show ((0 : Int)).toNat = 0 from rfl] at hx104_0)
                (try rw [show 0 * 4 = 0 from rfl] at hx104_0)
                (try rw [Addr.add_zero'] at hx104_0)
                (try rw [show ((0 : Int)).toNat = 0 from rfl] at hx104_1)
                (try rw [show 0 * 4 = 0 from rfl] at hx104_1)
                (try rw [Addr.add_zero'] at hx104_1)
                (try rw [show ((0 : Int)).toNat = 0 from rfl] at hx104_2)
                (try rw [show 0 * 4 = 0 from rfl] at hx104_2)
                (try rw [Addr.add_zero'] at hx104_2)
                (try rw [show ((0 : Int)).toNat = 0 from rfl] at hx104_3)
                (try rw [show 0 * 4 = 0 from rfl] at hx104_3)
                (try rw [Addr.add_zero'] at hx104_3)
                replace p104 := eq_true p104
                replace q104 := eq_true q104
                go_wp2
                go_meet
                case rel => exact ⟨_, (x5_4), (false), (by first | rfl | (simp; done) | (simp [*]; done)), (by first | rfl | (simp; done) | (simp [*]; done)), H', ⟨by have := HJ4.out; first | omega | exact Nat.le_refl _⟩, by repeat (first | exact Drawn0.refl _ | apply Drawn0.step)⟩
          case rest =>
            clear HC13
            try clear c1
            try clear p1
            try clear q1
            try clear hx1
            try clear qi1
            try clear p2
            try clear c4
            try clear c5
            try clear c6
            try clear c6b0
            try clear c7
            try clear c7b0
            try clear c7b1
            try clear c8
            try clear c8b0
            try clear c8b1
            try clear c9
            try clear c9b0
            try clear c9b1
            try clear c10
            try clear c10b0
            try clear c10b1
            try clear p10
            try clear q10
            try clear hx10
            try clear qi10
            try clear c11
            try clear c11b0
            try clear c11b1
            try clear c12
            try clear c14
            try clear c14b0
            try clear c14b1
            try clear c16
            try clear c17
            try clear c17b0
            try clear c17b1
            try clear c19
            try clear c19b0
            try clear c19b1
            try clear hx102_0
            try clear hx102_1
            try clear hx102_2
            try clear hx102_3
            try clear hx104_0
            try clear hx104_1
            try clear hx104_2
            try clear hx104_3
            try clear p1
            try clear p10
            try clear p102
            try clear p104
            try clear p2
            try clear q1
            try clear q10
            try clear q102
            try clear q104
            obtain ⟨kq, x5_12, x84_12, rfl, rfl, HA, HJ12, ⟨mc12, rfl⟩⟩ := hcut
            cases kq with
            | zero => exact absurd HA.out (by simp [spec_l3Node.j1])
            | succ kj12 =>
              have H := HA.out
              clear HA
              simp only [spec_l3Node.j1] at H
              by_cases c21 : x84_12 = true
              · subst c21
                have H1 : (some 3) = some r := by rw [if_pos rfl] at H; exact H
                clear H
                have H := H1
                clear H1
                obtain rfl := Option.some.inj H
                go_wp2
                go_ret
                exact ⟨by first | rfl | (simp; done) | (simp [*]; done), by repeat (first | exact Drawn0.refl _ | apply Drawn0.step)⟩
              · replace c21 := Bool.eq_false_iff.mpr c21
                subst c21
                have H1 : (if x5_12 = true then ((spec_l3Two.f ((rd_T54 [a0] 0).f0)).bind fun t109 => (if t109 = true then ((spec_l1In.f ((rd_T54 [a0] 0).f3) 0 (wrap64 (a1 - 1))).bind fun t110 => (if t110 = true then (some 0) else (some 3))) else (some 0))) else ((spec_l1In.f ((rd_T54 [a0] 0).f2) 0 (wrap64 (a1 - 1))).bind fun t112 => (if t112 = true then ((spec_l3Two.f ((rd_T54 [a0] 0).f0)).bind fun t113 => (if t113 = true then ((spec_l1In.f ((rd_T54 [a0] 0).f3) 0 (wrap64 (a1 - 1))).bind fun t114 => (if t114 = true then (some 0) else (some 3))) else (some 0))) else (some 3)))) = some r := by rw [if_neg (show ¬ (false = true) by decide)] at H; exact H
                clear H
                have H := H1
                clear H1
                by_cases c22 : x5_12 = true
                · subst c22
                  have H1 : ((spec_l3Two.f ((rd_T54 [a0] 0).f0)).bind fun t109 => (if t109 = true then ((spec_l1In.f ((rd_T54 [a0] 0).f3) 0 (wrap64 (a1 - 1))).bind fun t110 => (if t110 = true then (some 0) else (some 3))) else (some 0))) = some r := by rw [if_pos rfl] at H; exact H
                  clear H
                  have H := H1
                  clear H1
                  replace H := Option.bind_eq_some_iff.mp H
                  obtain ⟨t109, A230, H⟩ := H
                  replace H : (if t109 = true then ((spec_l1In.f ((rd_T54 [a0] 0).f3) 0 (wrap64 (a1 - 1))).bind fun t110 => (if t110 = true then (some 0) else (some 3))) else (some 0)) = some r := H
                  have A23 := Aside0.mk A230
                  clear A230
                  by_cases c24 : t109 = true
                  · subst c24
                    have H1 : ((spec_l1In.f ((rd_T54 [a0] 0).f3) 0 (wrap64 (a1 - 1))).bind fun t110 => (if t110 = true then (some 0) else (some 3))) = some r := by rw [if_pos rfl] at H; exact H
                    clear H
                    have H := H1
                    clear H1
                    replace H := Option.bind_eq_some_iff.mp H
                    obtain ⟨t110, A250, H⟩ := H
                    replace H : (if t110 = true then (some 0) else (some 3)) = some r := H
                    have A25 := Aside0.mk A250
                    clear A250
                    by_cases c26 : t110 = true
                    · subst c26
                      have H1 : (some 0) = some r := by rw [if_pos rfl] at H; exact H
                      clear H
                      have H := H1
                      clear H1
                      obtain rfl := Option.some.inj H
                      have p108 : 0 ≤ (0 : Int) := (by omega)
                      have q108 : 0 < ([a0].length : Int) := (by simp)
                      obtain ⟨ad108, e108, hx108_0, hx108_1, hx108_2, hx108_3⟩ := at_T54 HR0.out 0 p108 q108
                      obtain rfl : adp0 = ad108 := (by injection e108)
                      have qi108 : (0 < [a0].length) = True := eq_true (by omega)
                      (try rw [show ((0 : Int)).toNat = 0 from rfl] at hx108_0)
                      (try rw [show 0 * 4 = 0 from rfl] at hx108_0)
                      (try rw [Addr.add_zero'] at hx108_0)
                      (try rw [show ((0 : Int)).toNat = 0 from rfl] at hx108_1)
                      (try rw [show 0 * 4 = 0 from rfl] at hx108_1)
                      (try rw [Addr.add_zero'] at hx108_1)
                      (try rw [show ((0 : Int)).toNat = 0 from rfl] at hx108_2)
                      (try rw [show 0 * 4 = 0 from rfl] at hx108_2)
                      (try rw [Addr.add_zero'] at hx108_2)
                      (try rw [show ((0 : Int)).toNat = 0 from rfl] at hx108_3)
                      (try rw [show 0 * 4 = 0 from rfl] at hx108_3)
                      (try rw [Addr.add_zero'] at hx108_3)
                      replace p108 := eq_true p108
                      replace q108 := eq_true q108
                      go_wp2_with (first | (go_at_call 62; (with_reducible refine (spec_l3Two.calls ((rd_T54 [a0] 0).f0) true _ A23.out).mono ?_); rintro e w' ⟨rfl, ⟨nd, rfl⟩⟩) | (go_at_call 49; (with_reducible refine (spec_l1In.calls ((rd_T54 [a0] 0).f3) 0 (wrap64 (a1 - 1)) true _ A25.out).mono ?_); rintro e w' ⟨rfl, ⟨nd, rfl⟩⟩))
                      go_ret
                      exact ⟨by first | rfl | (simp; done) | (simp [*]; done), by repeat (first | exact Drawn0.refl _ | apply Drawn0.step)⟩
                    · replace c26 := Bool.eq_false_iff.mpr c26
                      subst c26
                      have H1 : (some 3) = some r := by rw [if_neg (show ¬ (false = true) by decide)] at H; exact H
                      clear H
                      have H := H1
                      clear H1
                      obtain rfl := Option.some.inj H
                      have p108 : 0 ≤ (0 : Int) := (by omega)
                      have q108 : 0 < ([a0].length : Int) := (by simp)
                      obtain ⟨ad108, e108, hx108_0, hx108_1, hx108_2, hx108_3⟩ := at_T54 HR0.out 0 p108 q108
                      obtain rfl : adp0 = ad108 := (by injection e108)
                      have qi108 : (0 < [a0].length) = True := eq_true (by omega)
                      (try rw [show ((0 : Int)).toNat = 0 from rfl] at hx108_0)
                      (try rw [show 0 * 4 = 0 from rfl] at hx108_0)
                      (try rw [Addr.add_zero'] at hx108_0)
                      (try rw [show ((0 : Int)).toNat = 0 from rfl] at hx108_1)
                      (try rw [show 0 * 4 = 0 from rfl] at hx108_1)
                      (try rw [Addr.add_zero'] at hx108_1)
                      (try rw [show ((0 : Int)).toNat = 0 from rfl] at hx108_2)
                      (try rw [show 0 * 4 = 0 from rfl] at hx108_2)
                      (try rw [Addr.add_zero'] at hx108_2)
                      (try rw [show ((0 : Int)).toNat = 0 from rfl] at hx108_3)
                      (try rw [show 0 * 4 = 0 from rfl] at hx108_3)
                      (try rw [Addr.add_zero'] at hx108_3)
                      replace p108 := eq_true p108
                      replace q108 := eq_true q108
                      go_wp2_with (first | (go_at_call 62; (with_reducible refine (spec_l3Two.calls ((rd_T54 [a0] 0).f0) true _ A23.out).mono ?_); rintro e w' ⟨rfl, ⟨nd, rfl⟩⟩) | (go_at_call 49; (with_reducible refine (spec_l1In.calls ((rd_T54 [a0] 0).f3) 0 (wrap64 (a1 - 1)) false _ A25.out).mono ?_); rintro e w' ⟨rfl, ⟨nd, rfl⟩⟩))
                      go_ret
                      exact ⟨by first | rfl | (simp; done) | (simp [*]; done), by repeat (first | exact Drawn0.refl _ | apply Drawn0.step)⟩
                  · replace c24 := Bool.eq_false_iff.mpr c24
                    subst c24
                    have H1 : (some 0) = some r := by rw [if_neg (show ¬ (false = true) by decide)] at H; exact H
                    clear H
                    have H := H1
                    clear H1
                    obtain rfl := Option.some.inj H
                    have p108 : 0 ≤ (0 : Int) := (by omega)
                    have q108 : 0 < ([a0].length : Int) := (by simp)
                    obtain ⟨ad108, e108, hx108_0, hx108_1, hx108_2, hx108_3⟩ := at_T54 HR0.out 0 p108 q108
                    obtain rfl : adp0 = ad108 := (by injection e108)
                    have qi108 : (0 < [a0].length) = True := eq_true (by omega)
                    (try rw [show ((0 : Int)).toNat = 0 from rfl] at hx108_0)
                    (try rw [show 0 * 4 = 0 from rfl] at hx108_0)
                    (try rw [Addr.add_zero'] at hx108_0)
                    (try rw [show ((0 : Int)).toNat = 0 from rfl] at hx108_1)
                    (try rw [show 0 * 4 = 0 from rfl] at hx108_1)
                    (try rw [Addr.add_zero'] at hx108_1)
                    (try rw [show ((0 : Int)).toNat = 0 from rfl] at hx108_2)
                    (try rw [show 0 * 4 = 0 from rfl] at hx108_2)
                    (try rw [Addr.add_zero'] at hx108_2)
                    (try rw [show ((0 : Int)).toNat = 0 from rfl] at hx108_3)
                    (try rw [show 0 * 4 = 0 from rfl] at hx108_3)
                    (try rw [Addr.add_zero'] at hx108_3)
                    replace p108 := eq_true p108
                    replace q108 := eq_true q108
                    go_wp2_with (first | (go_at_call 62; (with_reducible refine (spec_l3Two.calls ((rd_T54 [a0] 0).f0) false _ A23.out).mono ?_); rintro e w' ⟨rfl, ⟨nd, rfl⟩⟩))
                    go_ret
                    exact ⟨by first | rfl | (simp; done) | (simp [*]; done), by repeat (first | exact Drawn0.refl _ | apply Drawn0.step)⟩
                · replace c22 := Bool.eq_false_iff.mpr c22
                  subst c22
                  have H1 : ((spec_l1In.f ((rd_T54 [a0] 0).f2) 0 (wrap64 (a1 - 1))).bind fun t112 => (if t112 = true then ((spec_l3Two.f ((rd_T54 [a0] 0).f0)).bind fun t113 => (if t113 = true then ((spec_l1In.f ((rd_T54 [a0] 0).f3) 0 (wrap64 (a1 - 1))).bind fun t114 => (if t114 = true then (some 0) else (some 3))) else (some 0))) else (some 3))) = some r := by rw [if_neg (show ¬ (false = true) by decide)] at H; exact H
                  clear H
                  have H := H1
                  clear H1
                  replace H := Option.bind_eq_some_iff.mp H
                  obtain ⟨t112, A270, H⟩ := H
                  replace H : (if t112 = true then ((spec_l3Two.f ((rd_T54 [a0] 0).f0)).bind fun t113 => (if t113 = true then ((spec_l1In.f ((rd_T54 [a0] 0).f3) 0 (wrap64 (a1 - 1))).bind fun t114 => (if t114 = true then (some 0) else (some 3))) else (some 0))) else (some 3)) = some r := H
                  have A27 := Aside0.mk A270
                  clear A270
                  by_cases c28 : t112 = true
                  · subst c28
                    have H1 : ((spec_l3Two.f ((rd_T54 [a0] 0).f0)).bind fun t113 => (if t113 = true then ((spec_l1In.f ((rd_T54 [a0] 0).f3) 0 (wrap64 (a1 - 1))).bind fun t114 => (if t114 = true then (some 0) else (some 3))) else (some 0))) = some r := by rw [if_pos rfl] at H; exact H
                    clear H
                    have H := H1
                    clear H1
                    replace H := Option.bind_eq_some_iff.mp H
                    obtain ⟨t113, A290, H⟩ := H
                    replace H : (if t113 = true then ((spec_l1In.f ((rd_T54 [a0] 0).f3) 0 (wrap64 (a1 - 1))).bind fun t114 => (if t114 = true then (some 0) else (some 3))) else (some 0)) = some r := H
                    have A29 := Aside0.mk A290
                    clear A290
                    by_cases c30 : t113 = true
                    · subst c30
                      have H1 : ((spec_l1In.f ((rd_T54 [a0] 0).f3) 0 (wrap64 (a1 - 1))).bind fun t114 => (if t114 = true then (some 0) else (some 3))) = some r := by rw [if_pos rfl] at H; exact H
                      clear H
                      have H := H1
                      clear H1
                      replace H := Option.bind_eq_some_iff.mp H
                      obtain ⟨t114, A310, H⟩ := H
                      replace H : (if t114 = true then (some 0) else (some 3)) = some r := H
                      have A31 := Aside0.mk A310
                      clear A310
                      by_cases c32 : t114 = true
                      · subst c32
                        have H1 : (some 0) = some r := by rw [if_pos rfl] at H; exact H
                        clear H
                        have H := H1
                        clear H1
                        obtain rfl := Option.some.inj H
                        have p111 : 0 ≤ (0 : Int) := (by omega)
                        have q111 : 0 < ([a0].length : Int) := (by simp)
                        obtain ⟨ad111, e111, hx111_0, hx111_1, hx111_2, hx111_3⟩ := at_T54 HR0.out 0 p111 q111
                        obtain rfl : adp0 = ad111 := (by injection e111)
                        have qi111 : (0 < [a0].length) = True := eq_true (by omega)
                        (try rw [show ((0 : Int)).toNat = 0 from rfl] at hx111_0)
                        (try rw [show 0 * 4 = 0 from rfl] at hx111_0)
                        (try rw [Addr.add_zero'] at hx111_0)
                        (try rw [show ((0 : Int)).toNat = 0 from rfl] at hx111_1)
                        (try rw [show 0 * 4 = 0 from rfl] at hx111_1)
                        (try rw [Addr.add_zero'] at hx111_1)
                        (try rw [show ((0 : Int)).toNat = 0 from rfl] at hx111_2)
                        (try rw [show 0 * 4 = 0 from rfl] at hx111_2)
                        (try rw [Addr.add_zero'] at hx111_2)
                        (try rw [show ((0 : Int)).toNat = 0 from rfl] at hx111_3)
                        (try rw [show 0 * 4 = 0 from rfl] at hx111_3)
                        (try rw [Addr.add_zero'] at hx111_3)
                        replace p111 := eq_true p111
                        replace q111 := eq_true q111
                        go_wp2_with (first | (go_at_call 49; (with_reducible refine (spec_l1In.calls ((rd_T54 [a0] 0).f2) 0 (wrap64 (a1 - 1)) true _ A27.out).mono ?_); rintro e w' ⟨rfl, ⟨nd, rfl⟩⟩) | (go_at_call 62; (with_reducible refine (spec_l3Two.calls ((rd_T54 [a0] 0).f0) true _ A29.out).mono ?_); rintro e w' ⟨rfl, ⟨nd, rfl⟩⟩) | (go_at_call 49; (with_reducible refine (spec_l1In.calls ((rd_T54 [a0] 0).f3) 0 (wrap64 (a1 - 1)) true _ A31.out).mono ?_); rintro e w' ⟨rfl, ⟨nd, rfl⟩⟩))
                        go_ret
                        exact ⟨by first | rfl | (simp; done) | (simp [*]; done), by repeat (first | exact Drawn0.refl _ | apply Drawn0.step)⟩
                      · replace c32 := Bool.eq_false_iff.mpr c32
                        subst c32
                        have H1 : (some 3) = some r := by rw [if_neg (show ¬ (false = true) by decide)] at H; exact H
                        clear H
                        have H := H1
                        clear H1
                        obtain rfl := Option.some.inj H
                        have p111 : 0 ≤ (0 : Int) := (by omega)
                        have q111 : 0 < ([a0].length : Int) := (by simp)
                        obtain ⟨ad111, e111, hx111_0, hx111_1, hx111_2, hx111_3⟩ := at_T54 HR0.out 0 p111 q111
                        obtain rfl : adp0 = ad111 := (by injection e111)
                        have qi111 : (0 < [a0].length) = True := eq_true (by omega)
                        (try rw [show ((0 : Int)).toNat = 0 from rfl] at hx111_0)
                        (try rw [show 0 * 4 = 0 from rfl] at hx111_0)
                        (try rw [Addr.add_zero'] at hx111_0)
                        (try rw [show ((0 : Int)).toNat = 0 from rfl] at hx111_1)
                        (try rw [show 0 * 4 = 0 from rfl] at hx111_1)
                        (try rw [Addr.add_zero'] at hx111_1)
                        (try rw [show ((0 : Int)).toNat = 0 from rfl] at hx111_2)
                        (try rw [show 0 * 4 = 0 from rfl] at hx111_2)
                        (try rw [Addr.add_zero'] at hx111_2)
                        (try rw [show ((0 : Int)).toNat = 0 from rfl] at hx111_3)
                        (try rw [show 0 * 4 = 0 from rfl] at hx111_3)
                        (try rw [Addr.add_zero'] at hx111_3)
                        replace p111 := eq_true p111
                        replace q111 := eq_true q111
                        go_wp2_with (first | (go_at_call 49; (with_reducible refine (spec_l1In.calls ((rd_T54 [a0] 0).f2) 0 (wrap64 (a1 - 1)) true _ A27.out).mono ?_); rintro e w' ⟨rfl, ⟨nd, rfl⟩⟩) | (go_at_call 62; (with_reducible refine (spec_l3Two.calls ((rd_T54 [a0] 0).f0) true _ A29.out).mono ?_); rintro e w' ⟨rfl, ⟨nd, rfl⟩⟩) | (go_at_call 49; (with_reducible refine (spec_l1In.calls ((rd_T54 [a0] 0).f3) 0 (wrap64 (a1 - 1)) false _ A31.out).mono ?_); rintro e w' ⟨rfl, ⟨nd, rfl⟩⟩))
                        go_ret
                        exact ⟨by first | rfl | (simp; done) | (simp [*]; done), by repeat (first | exact Drawn0.refl _ | apply Drawn0.step)⟩
                    · replace c30 := Bool.eq_false_iff.mpr c30
                      subst c30
                      have H1 : (some 0) = some r := by rw [if_neg (show ¬ (false = true) by decide)] at H; exact H
                      clear H
                      have H := H1
                      clear H1
                      obtain rfl := Option.some.inj H
                      have p111 : 0 ≤ (0 : Int) := (by omega)
                      have q111 : 0 < ([a0].length : Int) := (by simp)
                      obtain ⟨ad111, e111, hx111_0, hx111_1, hx111_2, hx111_3⟩ := at_T54 HR0.out 0 p111 q111
                      obtain rfl : adp0 = ad111 := (by injection e111)
                      have qi111 : (0 < [a0].length) = True := eq_true (by omega)
                      (try rw [show ((0 : Int)).toNat = 0 from rfl] at hx111_0)
                      (try rw [show 0 * 4 = 0 from rfl] at hx111_0)
                      (try rw [Addr.add_zero'] at hx111_0)
                      (try rw [show ((0 : Int)).toNat = 0 from rfl] at hx111_1)
                      (try rw [show 0 * 4 = 0 from rfl] at hx111_1)
                      (try rw [Addr.add_zero'] at hx111_1)
                      (try rw [show ((0 : Int)).toNat = 0 from rfl] at hx111_2)
                      (try rw [show 0 * 4 = 0 from rfl] at hx111_2)
                      (try rw [Addr.add_zero'] at hx111_2)
                      (try rw [show ((0 : Int)).toNat = 0 from rfl] at hx111_3)
                      (try rw [show 0 * 4 = 0 from rfl] at hx111_3)
                      (try rw [Addr.add_zero'] at hx111_3)
                      replace p111 := eq_true p111
                      replace q111 := eq_true q111
                      go_wp2_with (first | (go_at_call 49; (with_reducible refine (spec_l1In.calls ((rd_T54 [a0] 0).f2) 0 (wrap64 (a1 - 1)) true _ A27.out).mono ?_); rintro e w' ⟨rfl, ⟨nd, rfl⟩⟩) | (go_at_call 62; (with_reducible refine (spec_l3Two.calls ((rd_T54 [a0] 0).f0) false _ A29.out).mono ?_); rintro e w' ⟨rfl, ⟨nd, rfl⟩⟩))
                      go_ret
                      exact ⟨by first | rfl | (simp; done) | (simp [*]; done), by repeat (first | exact Drawn0.refl _ | apply Drawn0.step)⟩
                  · replace c28 := Bool.eq_false_iff.mpr c28
                    subst c28
                    have H1 : (some 3) = some r := by rw [if_neg (show ¬ (false = true) by decide)] at H; exact H
                    clear H
                    have H := H1
                    clear H1
                    obtain rfl := Option.some.inj H
                    have p111 : 0 ≤ (0 : Int) := (by omega)
                    have q111 : 0 < ([a0].length : Int) := (by simp)
                    obtain ⟨ad111, e111, hx111_0, hx111_1, hx111_2, hx111_3⟩ := at_T54 HR0.out 0 p111 q111
                    obtain rfl : adp0 = ad111 := (by injection e111)
                    have qi111 : (0 < [a0].length) = True := eq_true (by omega)
                    (try rw [show ((0 : Int)).toNat = 0 from rfl] at hx111_0)
                    (try rw [show 0 * 4 = 0 from rfl] at hx111_0)
                    (try rw [Addr.add_zero'] at hx111_0)
                    (try rw [show ((0 : Int)).toNat = 0 from rfl] at hx111_1)
                    (try rw [show 0 * 4 = 0 from rfl] at hx111_1)
                    (try rw [Addr.add_zero'] at hx111_1)
                    (try rw [show ((0 : Int)).toNat = 0 from rfl] at hx111_2)
                    (try rw [show 0 * 4 = 0 from rfl] at hx111_2)
                    (try rw [Addr.add_zero'] at hx111_2)
                    (try rw [show ((0 : Int)).toNat = 0 from rfl] at hx111_3)
                    (try rw [show 0 * 4 = 0 from rfl] at hx111_3)
                    (try rw [Addr.add_zero'] at hx111_3)
                    replace p111 := eq_true p111
                    replace q111 := eq_true q111
                    go_wp2_with (first | (go_at_call 49; (with_reducible refine (spec_l1In.calls ((rd_T54 [a0] 0).f2) 0 (wrap64 (a1 - 1)) false _ A27.out).mono ?_); rintro e w' ⟨rfl, ⟨nd, rfl⟩⟩))
                    go_ret
                    exact ⟨by first | rfl | (simp; done) | (simp [*]; done), by repeat (first | exact Drawn0.refl _ | apply Drawn0.step)⟩
  · replace c4 := Bool.eq_false_iff.mpr c4
    subst c4
    have H1 : (some 1) = some r := by rw [if_neg (show ¬ (false = true) by decide)] at H; exact H
    clear H
    have H := H1
    clear H1
    obtain rfl := Option.some.inj H
    have p102 : 0 ≤ (0 : Int) := (by omega)
    have q102 : 0 < ([a0].length : Int) := (by simp)
    obtain ⟨ad102, e102, hx102_0, hx102_1, hx102_2, hx102_3⟩ := at_T54 HR0.out 0 p102 q102
    obtain rfl : adp0 = ad102 := (by injection e102)
    have qi102 : (0 < [a0].length) = True := eq_true (by omega)
    (try rw [show ((0 : Int)).toNat = 0 from rfl] at hx102_0)
    (try rw [show 0 * 4 = 0 from rfl] at hx102_0)
    (try rw [Addr.add_zero'] at hx102_0)
    (try rw [show ((0 : Int)).toNat = 0 from rfl] at hx102_1)
    (try rw [show 0 * 4 = 0 from rfl] at hx102_1)
    (try rw [Addr.add_zero'] at hx102_1)
    (try rw [show ((0 : Int)).toNat = 0 from rfl] at hx102_2)
    (try rw [show 0 * 4 = 0 from rfl] at hx102_2)
    (try rw [Addr.add_zero'] at hx102_2)
    (try rw [show ((0 : Int)).toNat = 0 from rfl] at hx102_3)
    (try rw [show 0 * 4 = 0 from rfl] at hx102_3)
    (try rw [Addr.add_zero'] at hx102_3)
    replace p102 := eq_true p102
    replace q102 := eq_true q102
    go_enter Try.func52, Try.ntmps52
    go_wp2_with (first | ((with_reducible refine gate_callee (f := 49) rfl ?_); refine goesL_ (some 10) rfl rfl Try.func49 (by kernel_rfl) rfl #[.int .i64 ((rd_T54 [a0] 0).f0), .int .i64 1, .int .i64 10] rfl (by (try simp only [List.map_toArray, List.map_cons, List.map_nil]); first | done | rfl | (simp only [List.length_drop, List.length_take]; rfl)) ?_; (with_reducible refine (spec_l1In.calls ((rd_T54 [a0] 0).f0) 1 10 false _ A3.out).mono ?_); rintro e w' ⟨rfl, ⟨nd, rfl⟩⟩; refine ⟨_, rfl, ?_⟩))
    go_ret
    exact ⟨by first | rfl | (simp; done) | (simp [*]; done), by repeat (first | exact Drawn0.refl _ | apply Drawn0.step)⟩

/-! ### spec_l3Walk: function 53 -/
mutual
def spec_l3Walk.j0 : Nat → List (S54) → Int → List Int → Option (List Int)
  | 0, _, _, _ => none
  | k + 1, x0, x1, x2 => if 0 ≤ x1 then (if x1 < (x0.length : Int) then ((spec_l3Two.f ((rd_T54 x0 x1).f0)).bind fun t121 => (if t121 = true then ((spec_l3Walk.f k x0 ((rd_T54 x0 x1).f3) x2).bind fun t123 => (if t123.length < 17592186044416 then (some (t123 ++ [x1])) else (none))) else (if x2.length < 17592186044416 then (some (x2 ++ [x1])) else (none)))) else (none)) else (none)
def spec_l3Walk.f : Nat → List (S54) → Int → List Int → Option (List Int)
  | 0, _, _, _ => none
  | k + 1, l0, a1, l2 => if (l2.length : Int) > 16 then (some l2) else (if 0 ≤ a1 then (if a1 < (l0.length : Int) then (if ((rd_T54 l0 a1).f0) > 2 then ((spec_l3Walk.f k l0 ((rd_T54 l0 a1).f2) l2).bind fun t117 => (spec_l3Walk.j0 k l0 a1 t117)) else (spec_l3Walk.j0 k l0 a1 l2)) else (none)) else (none))
end
theorem spec_l3Walk.mono_l : ∀ k, (∀ y0 y1 y2, LeO (spec_l3Walk.f k y0 y1 y2) (spec_l3Walk.f (k + 1) y0 y1 y2)) ∧ (∀ y0 y1 y2, LeO (spec_l3Walk.j0 k y0 y1 y2) (spec_l3Walk.j0 (k + 1) y0 y1 y2))
  | 0 => ⟨fun _ _ _ r h => by simp [spec_l3Walk.f] at h, fun _ _ _ r h => by simp [spec_l3Walk.j0] at h⟩
  | k + 1 => by
    obtain ⟨ih0, ih1⟩ := spec_l3Walk.mono_l k
    refine ⟨?_, ?_⟩
    · intro y0 y1 y2
      unfold spec_l3Walk.f
      repeat' first
      | (with_reducible exact ih0 _ _ _)
      | (with_reducible exact ih1 _ _ _)
      | (with_reducible exact LeO.refl _)
      | (with_reducible exact LeO.none _)
      | (with_reducible refine LeO.ite ?_ ?_)
      | (with_reducible refine LeO.bind ?_ (fun _ => ?_))
      | exact ih0 _ _ _
      | exact ih1 _ _ _
      | exact LeO.none _
      | refine LeO.ite ?_ ?_
      | refine LeO.bind ?_ (fun _ => ?_)
    · intro y0 y1 y2
      unfold spec_l3Walk.j0
      repeat' first
      | (with_reducible exact ih0 _ _ _)
      | (with_reducible exact ih1 _ _ _)
      | (with_reducible exact LeO.refl _)
      | (with_reducible exact LeO.none _)
      | (with_reducible refine LeO.ite ?_ ?_)
      | (with_reducible refine LeO.bind ?_ (fun _ => ?_))
      | exact ih0 _ _ _
      | exact ih1 _ _ _
      | exact LeO.none _
      | refine LeO.ite ?_ ?_
      | refine LeO.bind ?_ (fun _ => ?_)
theorem spec_l3Walk.mono : ∀ a0 a1 a2 k, LeO (spec_l3Walk.f k a0 a1 a2) (spec_l3Walk.f (k + 1) a0 a1 a2) := by
  intro a0 a1 a2 k
  obtain ⟨ih0, ih1⟩ := spec_l3Walk.mono_l k
  exact ih0 a0 a1 a2
set_option maxHeartbeats 8000000 in
set_option maxRecDepth 100000 in
theorem spec_l3Walk.calls (k : Nat) : ∀ (A0 : Option Addr) (c0 : Nat) (l0 : List (S54)) (a1 : Int) (P2_ : Nat → Prop) (u9000_ : Value) (l2 : List Int) (r : List Int) (w0 w : World) (hB : Below w0.heap.size w0 w) (hr0 : ∀ W_, Kept w W_ (fun k_ => P2_ k_) → Kd.C k54 W_ A0 l0.length l0) (hc0 : l0.length ≤ c0) (ho2 : Kd.R (Kd.int .i64) 2 w w0.heap.size P2_ u9000_ l2) (h : spec_l3Walk.f k l0 a1 l2 = some r),
    Calls Try.prog 53 #[.slice A0 l0.length c0, .int .i64 a1, u9000_] w fun e w' => ∃ v0_ : Value, e = .returned (v0_) ∧ Kd.R (Kd.int .i64) 2 w' w0.heap.size (fun k_ => (P2_ k_ ∨ w.heap.size ≤ k_)) v0_ r ∧ Below w0.heap.size w0 w' ∧ Kept w w' (fun k_ => P2_ k_) := by
  induction k using Nat.strongRecOn with
  | _ k ih =>
  intro A0 c0 l0 a1 P2_ u9000_ l2 r w0 w hB hr0 hc0 ho2 h
  cases k with
  | zero => exact absurd h (by simp [spec_l3Walk.f])
  | succ k =>
  simp only [spec_l3Walk.f] at h
  have HR0 := Aside0.mk hr0
  have HC0 := Aside0.mk hc0
  clear hr0 hc0
  have HO2 := Aside0.mk (show Kd.R (Kd.int .i64) 2 w w0.heap.size (fun k_ => (P2_ k_ ∨ w.heap.size ≤ k_)) u9000_ l2 from Kd.R_mono ho2 (fun k_ hk => (.inl hk)))
  have HK := Aside0.mk (Kept.refl w (fun k_ => P2_ k_))
  have HW0 := Aside0.mk hB.size
  have HB := Aside0.mk hB
  clear hB
  have H : (if (l2.length : Int) > 16 then (some l2) else (if 0 ≤ a1 then (if a1 < (l0.length : Int) then (if ((rd_T54 l0 a1).f0) > 2 then ((spec_l3Walk.f k l0 ((rd_T54 l0 a1).f2) l2).bind fun t117 => (spec_l3Walk.j0 k l0 a1 t117)) else (spec_l3Walk.j0 k l0 a1 l2)) else (none)) else (none))) = some r := h
  clear h
  by_cases c4 : (l2.length : Int) > 16
  · rw [if_pos c4] at H
    have c4b0 : decide (16 < (l2.length : Int)) = true := decide_eq_true c4
    have c4b1 : decide (16 < l2.length) = true := decide_eq_true (by omega)
    clear c4
    obtain rfl := Option.some.inj H
    obtain ⟨Ao5, co5, eo5⟩ := Kd.R_slice HO2.out
    subst eo5
    go_enter Try.func53, Try.ntmps53
    go_wp2
    go_ret
    exact ⟨_, by first | rfl | (simp [errW_none, errW_some] <;> rfl) | (simp [*, errW_none, errW_some] <;> rfl), by (with_reducible repeat (first | apply Kd.R_alloc | apply Kd.R_drewN | apply Kd.R_drew)); exact HO2.out, by repeat (first | (with_reducible first | exact HB.out | apply below_alloc | apply pw_below_drewN | apply below_drew1) | exact HB.out), by repeat (first | (with_reducible first | exact HK.out | apply Kept.alloc | apply Kept.drewN | apply Kept.drew) | exact HK.out)⟩
  · rw [if_neg c4] at H
    have c4b0 : decide (16 < (l2.length : Int)) = false := decide_eq_false c4
    have c4b1 : decide (16 < l2.length) = false := decide_eq_false (by omega)
    clear c4
    by_cases c6 : 0 ≤ a1
    · rw [if_pos c6] at H
      have c6b0 : decide (0 ≤ a1) = true := decide_eq_true c6
      clear c6
      by_cases c7 : a1 < (l0.length : Int)
      · rw [if_pos c7] at H
        have c7b0 : decide (a1 < (l0.length : Int)) = true := decide_eq_true c7
        clear c7
        have HC8 := Aside0.mk H
        clear H
        obtain ⟨Ao9, co9, eo9⟩ := Kd.R_slice HO2.out
        subst eo9
        have p115 : 0 ≤ (a1 : Int) := of_decide_eq_true (by first | (with_reducible assumption) | assumption)
        have q115 : a1 < (l0.length : Int) := of_decide_eq_true (by first | (with_reducible assumption) | assumption)
        obtain ⟨ad115, e115, hx115_0, hx115_1, hx115_2, hx115_3⟩ := at_T54 (Kd.C_kept_now HR0.out HK.out) a1 p115 q115
        cases e115
        replace p115 := eq_true p115
        replace q115 := eq_true q115
        go_enter Try.func53, Try.ntmps53
        go_upto_if 16 with (fail)
        go_cut [2] (fun v2 wc => ∃ (kq : Nat) (x2_7 : List Int), Aside0 (spec_l3Walk.j0 kq l0 a1 x2_7 = some r) ∧ Aside0 (kq ≤ k) ∧ Aside0 (Kd.R (Kd.int .i64) 2 wc w0.heap.size (fun k_ => (P2_ k_ ∨ w.heap.size ≤ k_)) v2 x2_7) ∧ Aside0 (Kept w wc (fun k_ => P2_ k_)) ∧ Aside0 (Below w0.heap.size w0 wc))
        case first =>
          have H := HC8.out
          clear HC8
          by_cases c10 : ((rd_T54 l0 a1).f0) > 2
          · rw [if_pos c10] at H
            have c10b0 : decide (2 < ((rd_T54 l0 a1).f0)) = true := decide_eq_true c10
            clear c10
            (first | rw [c10b0] | (simp only [i64_w, i32_w]; rw [c10b0]) | skip)
            replace H := Option.bind_eq_some_iff.mp H
            obtain ⟨t117, A110, H⟩ := H
            replace H : (spec_l3Walk.j0 k l0 a1 t117) = some r := H
            have A11 := Aside0.mk A110
            clear A110
            have H' := Aside0.mk H
            clear H
            have p116 : 0 ≤ (a1 : Int) := of_decide_eq_true (by first | (with_reducible assumption) | assumption)
            have q116 : a1 < (l0.length : Int) := of_decide_eq_true (by first | (with_reducible assumption) | assumption)
            obtain ⟨ad116, e116, hx116_0, hx116_1, hx116_2, hx116_3⟩ := at_T54 (Kd.C_kept_now HR0.out HK.out) a1 p116 q116
            obtain rfl : ad115 = ad116 := (by injection e116)
            replace p116 := eq_true p116
            replace q116 := eq_true q116
            go_wp2_with (first | ((with_reducible refine gate_callee (f := 53) rfl ?_); refine goesL_ (some 24) rfl rfl Try.func53 (by kernel_rfl) rfl #[.slice (some ad115) l0.length c0, .int .i64 ((rd_T54 l0 a1).f2), .slice Ao9 l2.length co9] rfl (by (try simp only [List.map_toArray, List.map_cons, List.map_nil]); first | done | rfl | (simp only [List.length_drop, List.length_take]; rfl)) ?_; (with_reducible refine (ih k (by omega) _ _ l0 ((rd_T54 l0 a1).f2) (fun k_ => some k_ = (.slice Ao9 l2.length co9 : Value).ownBlock) (.slice Ao9 l2.length co9) l2 t117 w0 _ ?side1 ?side2 ?side3 ?side4 A11.out).mono ?_); (case side1 => repeat (first | (with_reducible first | exact HB.out | apply below_alloc | apply pw_below_drewN | apply below_drew1) | exact HB.out)); (case side2 => exact Kd.C_kept_call HR0.out (by repeat (first | (with_reducible first | exact HK.out | apply Kept.alloc | apply Kept.drewN | apply Kept.drew) | exact HK.out)) (fun k_ hs_ => (fun e_ => (HO2.out.1 k_ e_.symm)) hs_)); (case side3 => exact HC0.out); (case side4 => exact Kd.R_tight rfl HO2.out); rintro e w12 ⟨v118, rfl, ho0, hb, hkp⟩; refine ⟨_, rfl, ?_⟩; have n0_ := Aside0.mk (Kd.R_mono (ok' := fun k_ => (P2_ k_ ∨ w.heap.size ≤ k_)) ho0 (fun k_ hk_ => Or.elim hk_ (fun hs_ => (HO2.out.1 k_ (hs_).symm)) (fun hn_ => (.inr (Nat.le_trans (by first | exact HK.out.1 | exact (show Kept w _ (fun k_ => P2_ k_) from by repeat (first | (with_reducible first | exact HK.out | apply Kept.alloc | apply Kept.drewN | apply Kept.drew) | exact HK.out)).1) hn_))))); have n1_ := Aside0.mk (Kept.then_ (S := (fun k_ => P2_ k_)) (by repeat (first | (with_reducible first | exact HK.out | apply Kept.alloc | apply Kept.drewN | apply Kept.drew) | exact HK.out)) hkp (fun k_ hs_ => (fun e_ => (HO2.out.1 k_ e_.symm)) hs_)); have n2_ := Aside0.mk (hb); clear HK; clear HB; clear HO2; have HO119 := n0_; have HK := n1_; have HB := n2_; clear n0_ n1_ n2_; (try clear hb); (try clear hkp); (try clear ho0)))
            go_meet
            case rel => exact ⟨_, (t117), H', ⟨by first | omega | exact Nat.le_refl _⟩, ⟨by (with_reducible repeat (first | apply Kd.R_alloc | apply Kd.R_drewN | apply Kd.R_drew)); exact HO119.out⟩, ⟨by repeat (first | (with_reducible first | exact HK.out | apply Kept.alloc | apply Kept.drewN | apply Kept.drew) | exact HK.out)⟩, ⟨by repeat (first | (with_reducible first | exact HB.out | apply below_alloc | apply pw_below_drewN | apply below_drew1) | exact HB.out)⟩⟩
          · rw [if_neg c10] at H
            have c10b0 : decide (2 < ((rd_T54 l0 a1).f0)) = false := decide_eq_false c10
            clear c10
            (first | rw [c10b0] | (simp only [i64_w, i32_w]; rw [c10b0]) | skip)
            have H' := Aside0.mk H
            clear H
            go_wp2
            go_meet
            case rel => exact ⟨_, (l2), H', ⟨by first | omega | exact Nat.le_refl _⟩, ⟨by (with_reducible repeat (first | apply Kd.R_alloc | apply Kd.R_drewN | apply Kd.R_drew)); exact HO2.out⟩, ⟨by repeat (first | (with_reducible first | exact HK.out | apply Kept.alloc | apply Kept.drewN | apply Kept.drew) | exact HK.out)⟩, ⟨by repeat (first | (with_reducible first | exact HB.out | apply below_alloc | apply pw_below_drewN | apply below_drew1) | exact HB.out)⟩⟩
        case rest =>
          clear HC8
          try clear c1
          try clear p1
          try clear q1
          try clear hx1
          try clear p2
          try clear c4
          try clear c4b0
          try clear c4b1
          try clear c5
          try clear c6
          try clear c6b0
          try clear c7
          try clear c7b0
          try clear c10
          try clear c10b0
          try clear p11
          try clear q11
          try clear hx11
          try clear hx115_0
          try clear hx115_1
          try clear hx115_2
          try clear hx115_3
          try clear hx116_0
          try clear hx116_1
          try clear hx116_2
          try clear hx116_3
          try clear p115
          try clear p116
          try clear q115
          try clear q116
          obtain ⟨kq, x2_7, HA, HJ7, HO_2, HK, HB⟩ := hcut
          cases kq with
          | zero => exact absurd HA.out (by simp [spec_l3Walk.j0])
          | succ kj7 =>
            have H := HA.out
            clear HA
            simp only [spec_l3Walk.j0] at H
            by_cases c13 : 0 ≤ a1
            · rw [if_pos c13] at H
              have c13b0 : decide (0 ≤ a1) = true := decide_eq_true c13
              clear c13
              by_cases c14 : a1 < (l0.length : Int)
              · rw [if_pos c14] at H
                have c14b0 : decide (a1 < (l0.length : Int)) = true := decide_eq_true c14
                clear c14
                replace H := Option.bind_eq_some_iff.mp H
                obtain ⟨t121, A150, H⟩ := H
                replace H : (if t121 = true then ((spec_l3Walk.f kj7 l0 ((rd_T54 l0 a1).f3) x2_7).bind fun t123 => (if t123.length < 17592186044416 then (some (t123 ++ [a1])) else (none))) else (if x2_7.length < 17592186044416 then (some (x2_7 ++ [a1])) else (none))) = some r := H
                have A15 := Aside0.mk A150
                clear A150
                by_cases c16 : t121 = true
                · subst c16
                  have H1 : ((spec_l3Walk.f kj7 l0 ((rd_T54 l0 a1).f3) x2_7).bind fun t123 => (if t123.length < 17592186044416 then (some (t123 ++ [a1])) else (none))) = some r := by rw [if_pos rfl] at H; exact H
                  clear H
                  have H := H1
                  clear H1
                  replace H := Option.bind_eq_some_iff.mp H
                  obtain ⟨t123, A170, H⟩ := H
                  replace H : (if t123.length < 17592186044416 then (some (t123 ++ [a1])) else (none)) = some r := H
                  have A17 := Aside0.mk A170
                  clear A170
                  by_cases c18 : t123.length < 17592186044416
                  · rw [if_pos c18] at H
                    have LMc18 := Aside0.mk c18
                    clear c18
                    obtain ⟨y126, hy126⟩ : ∃ y_ : List Int, y_ = (t123 ++ [a1]) := ⟨_, rfl⟩
                    replace H : (some y126) = some r := by first | (rw [hy126]; with_reducible exact H) | (have H2_ := (Option.bind_some _ _).symm.trans H; rw [hy126]; with_reducible exact H2_) | (have H2_ := (Option.bind_some _ _).symm.trans H; with_reducible exact H2_) | with_reducible exact H | (rw [hy126]; exact H) | exact H
                    have Ny126 := Aside0.mk hy126
                    clear hy126
                    obtain rfl := Option.some.inj H
                    have p120 : 0 ≤ (a1 : Int) := of_decide_eq_true (by first | (with_reducible assumption) | assumption)
                    have q120 : a1 < (l0.length : Int) := of_decide_eq_true (by first | (with_reducible assumption) | assumption)
                    obtain ⟨ad120, e120, hx120_0, hx120_1, hx120_2, hx120_3⟩ := at_T54 (Kd.C_kept_now HR0.out HK.out) a1 p120 q120
                    obtain rfl : ad115 = ad120 := (by injection e120)
                    replace p120 := eq_true p120
                    replace q120 := eq_true q120
                    go_wp2_with (first | ((with_reducible refine gate_callee (f := 62) rfl ?_); refine goesL_ (some 30) rfl rfl Try.func62 (by kernel_rfl) rfl #[.int .i64 ((rd_T54 l0 a1).f0)] rfl (by (try simp only [List.map_toArray, List.map_cons, List.map_nil]); first | done | rfl | (simp only [List.length_drop, List.length_take]; rfl)) ?_; (with_reducible refine (spec_l3Two.calls ((rd_T54 l0 a1).f0) true _ A15.out).mono ?_); rintro e w' ⟨rfl, ⟨nd, rfl⟩⟩; refine ⟨_, rfl, ?_⟩; have p122 : 0 ≤ (a1 : Int) := of_decide_eq_true (by first | (with_reducible assumption) | assumption); have q122 : a1 < (l0.length : Int) := of_decide_eq_true (by first | (with_reducible assumption) | assumption); obtain ⟨ad122, e122, hx122_0, hx122_1, hx122_2, hx122_3⟩ := at_T54 (Kd.C_kept_now HR0.out HK.out) a1 p122 q122; obtain rfl : ad115 = ad122 := (by injection e122); replace p122 := eq_true p122; replace q122 := eq_true q122; obtain ⟨Ao19, co19, eo19⟩ := Kd.R_slice HO_2.out; subst eo19) | ((with_reducible refine gate_callee (f := 53) rfl ?_); refine goesL_ (some 38) rfl rfl Try.func53 (by kernel_rfl) rfl #[.slice (some ad115) l0.length c0, .int .i64 ((rd_T54 l0 a1).f3), .slice Ao19 x2_7.length co19] rfl (by (try simp only [List.map_toArray, List.map_cons, List.map_nil]); first | done | rfl | (simp only [List.length_drop, List.length_take]; rfl)) ?_; (with_reducible refine (ih kj7 (by have := HJ7.out; omega) _ _ l0 ((rd_T54 l0 a1).f3) (fun k_ => some k_ = (.slice Ao19 x2_7.length co19 : Value).ownBlock) (.slice Ao19 x2_7.length co19) x2_7 t123 w0 _ ?side1 ?side2 ?side3 ?side4 A17.out).mono ?_); (case side1 => repeat (first | (with_reducible first | exact HB.out | apply below_alloc | apply pw_below_drewN | apply below_drew1) | exact HB.out)); (case side2 => exact Kd.C_kept_call HR0.out (by repeat (first | (with_reducible first | exact HK.out | apply Kept.alloc | apply Kept.drewN | apply Kept.drew) | exact HK.out)) (fun k_ hs_ => (fun e_ => (HO_2.out.1 k_ e_.symm)) hs_)); (case side3 => exact HC0.out); (case side4 => exact Kd.R_tight rfl HO_2.out); rintro e w20 ⟨v124, rfl, ho0, hb, hkp⟩; refine ⟨_, rfl, ?_⟩; have n0_ := Aside0.mk (Kd.R_mono (ok' := fun k_ => (P2_ k_ ∨ w.heap.size ≤ k_)) ho0 (fun k_ hk_ => Or.elim hk_ (fun hs_ => (HO_2.out.1 k_ (hs_).symm)) (fun hn_ => (.inr (Nat.le_trans (by first | exact HK.out.1 | exact (show Kept w _ (fun k_ => P2_ k_) from by repeat (first | (with_reducible first | exact HK.out | apply Kept.alloc | apply Kept.drewN | apply Kept.drew) | exact HK.out)).1) hn_))))); have n1_ := Aside0.mk (Kept.then_ (S := (fun k_ => P2_ k_)) (by repeat (first | (with_reducible first | exact HK.out | apply Kept.alloc | apply Kept.drewN | apply Kept.drew) | exact HK.out)) hkp (fun k_ hs_ => (fun e_ => (HO_2.out.1 k_ e_.symm)) hs_)); have n2_ := Aside0.mk (hb); clear HK; clear HB; clear HO_2; have HO125 := n0_; have HK := n1_; have HB := n2_; clear n0_ n1_ n2_; (try clear hb); (try clear hkp); (try clear ho0)) | ((with_reducible refine gate_builtin (b := .append) (xs := #[.tmp 39, .tmp 41]) rfl ?_); at_builtin; refine Kd.R_append (Kd.int .i64) (w0 := w0) w0.heap.size rfl (.tmp 39) (.tmp 41) 23 2 (.int .i64 0) 8 rfl Try.underlying23 info2 rfl (by decide) (by omega) v124 t123 a1 [.int .i64 a1] (fun k_ => (P2_ k_ ∨ w.heap.size ≤ k_)) (fun _ => False) rfl rfl ?aP (fun _ hk => hk.elim) ?aF ?aO ?aB ?aS ?aL ?_; (case aP => exact rfl); (case aB => exact (by repeat (first | (with_reducible first | exact HB.out | apply below_alloc | apply pw_below_drewN | apply below_drew1) | exact HB.out))); (case aF => exact (fun k_ hk => (.inr (Nat.le_trans (by first | exact HK.out.1 | exact (show Kept w _ (fun k_ => P2_ k_) from by repeat (first | (with_reducible first | exact HK.out | apply Kept.alloc | apply Kept.drewN | apply Kept.drew) | exact HK.out)).1) hk)))); (case aO => exact (by (with_reducible repeat (first | apply Kd.R_alloc | apply Kd.R_drewN | apply Kd.R_drew)); exact HO125.out)); (case aS => exact (below_size (by repeat (first | (with_reducible first | exact HB.out | apply below_alloc | apply pw_below_drewN | apply below_drew1) | exact HB.out)))); (case aL => have := LMc18.out; omega); intro v127 w21 ho hb hg hat; rw [← Ny126.out] at ho; have n0_ := Aside0.mk (hb); have n1_ := Aside0.mk (Kept.of_grown (S := (fun k_ => P2_ k_)) hg (by repeat (first | (with_reducible first | exact HK.out | apply Kept.alloc | apply Kept.drewN | apply Kept.drew) | exact HK.out)) (fun k_ e_ => (HO125.out.1 k_ e_))); have n2_ := Aside0.mk (ho); clear HB; clear HK; clear HO125; have HB := n0_; have HK := n1_; have HO128 := n2_; clear n0_ n1_ n2_; clear ho hb hg hat))
                    go_ret
                    exact ⟨_, by first | rfl | (simp [errW_none, errW_some] <;> rfl) | (simp [*, errW_none, errW_some] <;> rfl), by (with_reducible repeat (first | apply Kd.R_alloc | apply Kd.R_drewN | apply Kd.R_drew)); exact HO128.out, by repeat (first | (with_reducible first | exact HB.out | apply below_alloc | apply pw_below_drewN | apply below_drew1) | exact HB.out), by repeat (first | (with_reducible first | exact HK.out | apply Kept.alloc | apply Kept.drewN | apply Kept.drew) | exact HK.out)⟩
                  · rw [if_neg c18] at H
                    exact absurd H (by simp)
                · replace c16 := Bool.eq_false_iff.mpr c16
                  subst c16
                  have H1 : (if x2_7.length < 17592186044416 then (some (x2_7 ++ [a1])) else (none)) = some r := by rw [if_neg (show ¬ (false = true) by decide)] at H; exact H
                  clear H
                  have H := H1
                  clear H1
                  by_cases c22 : x2_7.length < 17592186044416
                  · rw [if_pos c22] at H
                    have LMc22 := Aside0.mk c22
                    clear c22
                    obtain ⟨y129, hy129⟩ : ∃ y_ : List Int, y_ = (x2_7 ++ [a1]) := ⟨_, rfl⟩
                    replace H : (some y129) = some r := by first | (rw [hy129]; with_reducible exact H) | (have H2_ := (Option.bind_some _ _).symm.trans H; rw [hy129]; with_reducible exact H2_) | (have H2_ := (Option.bind_some _ _).symm.trans H; with_reducible exact H2_) | with_reducible exact H | (rw [hy129]; exact H) | exact H
                    have Ny129 := Aside0.mk hy129
                    clear hy129
                    obtain rfl := Option.some.inj H
                    have p120 : 0 ≤ (a1 : Int) := of_decide_eq_true (by first | (with_reducible assumption) | assumption)
                    have q120 : a1 < (l0.length : Int) := of_decide_eq_true (by first | (with_reducible assumption) | assumption)
                    obtain ⟨ad120, e120, hx120_0, hx120_1, hx120_2, hx120_3⟩ := at_T54 (Kd.C_kept_now HR0.out HK.out) a1 p120 q120
                    obtain rfl : ad115 = ad120 := (by injection e120)
                    replace p120 := eq_true p120
                    replace q120 := eq_true q120
                    go_wp2_with (first | ((with_reducible refine gate_callee (f := 62) rfl ?_); refine goesL_ (some 30) rfl rfl Try.func62 (by kernel_rfl) rfl #[.int .i64 ((rd_T54 l0 a1).f0)] rfl (by (try simp only [List.map_toArray, List.map_cons, List.map_nil]); first | done | rfl | (simp only [List.length_drop, List.length_take]; rfl)) ?_; (with_reducible refine (spec_l3Two.calls ((rd_T54 l0 a1).f0) false _ A15.out).mono ?_); rintro e w' ⟨rfl, ⟨nd, rfl⟩⟩; refine ⟨_, rfl, ?_⟩) | ((with_reducible refine gate_builtin (b := .append) (xs := #[.tmp 39, .tmp 41]) rfl ?_); at_builtin; refine Kd.R_append (Kd.int .i64) (w0 := w0) w0.heap.size rfl (.tmp 39) (.tmp 41) 23 2 (.int .i64 0) 8 rfl Try.underlying23 info2 rfl (by decide) (by omega) u2 x2_7 a1 [.int .i64 a1] (fun k_ => (P2_ k_ ∨ w.heap.size ≤ k_)) (fun _ => False) rfl rfl ?aP (fun _ hk => hk.elim) ?aF ?aO ?aB ?aS ?aL ?_; (case aP => exact rfl); (case aB => exact (by repeat (first | (with_reducible first | exact HB.out | apply below_alloc | apply pw_below_drewN | apply below_drew1) | exact HB.out))); (case aF => exact (fun k_ hk => (.inr (Nat.le_trans (by first | exact HK.out.1 | exact (show Kept w _ (fun k_ => P2_ k_) from by repeat (first | (with_reducible first | exact HK.out | apply Kept.alloc | apply Kept.drewN | apply Kept.drew) | exact HK.out)).1) hk)))); (case aO => exact (by (with_reducible repeat (first | apply Kd.R_alloc | apply Kd.R_drewN | apply Kd.R_drew)); exact HO_2.out)); (case aS => exact (below_size (by repeat (first | (with_reducible first | exact HB.out | apply below_alloc | apply pw_below_drewN | apply below_drew1) | exact HB.out)))); (case aL => have := LMc22.out; omega); intro v130 w23 ho hb hg hat; rw [← Ny129.out] at ho; have n0_ := Aside0.mk (hb); have n1_ := Aside0.mk (Kept.of_grown (S := (fun k_ => P2_ k_)) hg (by repeat (first | (with_reducible first | exact HK.out | apply Kept.alloc | apply Kept.drewN | apply Kept.drew) | exact HK.out)) (fun k_ e_ => (HO_2.out.1 k_ e_))); have n2_ := Aside0.mk (ho); clear HB; clear HK; clear HO_2; have HB := n0_; have HK := n1_; have HO131 := n2_; clear n0_ n1_ n2_; clear ho hb hg hat))
                    go_ret
                    exact ⟨_, by first | rfl | (simp [errW_none, errW_some] <;> rfl) | (simp [*, errW_none, errW_some] <;> rfl), by (with_reducible repeat (first | apply Kd.R_alloc | apply Kd.R_drewN | apply Kd.R_drew)); exact HO131.out, by repeat (first | (with_reducible first | exact HB.out | apply below_alloc | apply pw_below_drewN | apply below_drew1) | exact HB.out), by repeat (first | (with_reducible first | exact HK.out | apply Kept.alloc | apply Kept.drewN | apply Kept.drew) | exact HK.out)⟩
                  · rw [if_neg c22] at H
                    exact absurd H (by simp)
              · rw [if_neg c14] at H
                exact absurd H (by simp)
            · rw [if_neg c13] at H
              exact absurd H (by simp)
      · rw [if_neg c7] at H
        exact absurd H (by simp)
    · rw [if_neg c6] at H
      exact absurd H (by simp)

/-! ### spec_l3Fault: function 33 -/
mutual
def spec_l3Fault.j0 : Nat → List (S54) → Bool → Option (Int)
  | 0, _, _ => none
  | k + 1, x0, x14 => if x14 = true then (some 2) else (spec_l3Fault.l0 k x0 0)
def spec_l3Fault.l0 : Nat → List (S54) → Int → Option (Int)
  | 0, _, _ => none
  | k + 1, x0, x3 => if x3 < (x0.length : Int) then (if 0 ≤ x3 then ((spec_l3Node.f k (rd_T54 x0 x3) x3).bind fun t133 => (if t133 = 0 then (spec_l3Fault.l0 k x0 (wrap64 (x3 + 1))) else (some t133))) else (none)) else ((spec_l3Walk.f k x0 (wrap64 ((x0.length : Int) - 1)) ([] : List Int)).bind fun t134 => (if (t134.length : Int) = (x0.length : Int) then (spec_l3Fault.l1 k t134 0) else (some 1)))
def spec_l3Fault.l1 : Nat → List Int → Int → Option (Int)
  | 0, _, _ => none
  | k + 1, x5, x6 => if x6 < (x5.length : Int) then (if 0 ≤ x6 then (if (rd x5 x6) = x6 then (spec_l3Fault.l1 k x5 (wrap64 (x6 + 1))) else (some 1)) else (none)) else (some 0)
end
def spec_l3Fault.f (k : Nat) (l0 : List (S54)) : Option (Int) := if (l0.length : Int) < 1 then (spec_l3Fault.j0 k l0 true) else (spec_l3Fault.j0 k l0 (decide ((l0.length : Int) > 16)))
theorem spec_l3Fault.mono_l : ∀ k, (∀ y0 y1, LeO (spec_l3Fault.j0 k y0 y1) (spec_l3Fault.j0 (k + 1) y0 y1)) ∧ (∀ y0 y1, LeO (spec_l3Fault.l0 k y0 y1) (spec_l3Fault.l0 (k + 1) y0 y1)) ∧ (∀ y0 y1, LeO (spec_l3Fault.l1 k y0 y1) (spec_l3Fault.l1 (k + 1) y0 y1))
  | 0 => ⟨fun _ _ r h => by simp [spec_l3Fault.j0] at h, fun _ _ r h => by simp [spec_l3Fault.l0] at h, fun _ _ r h => by simp [spec_l3Fault.l1] at h⟩
  | k + 1 => by
    obtain ⟨ih0, ih1, ih2⟩ := spec_l3Fault.mono_l k
    refine ⟨?_, ?_, ?_⟩
    · intro y0 y1
      unfold spec_l3Fault.j0
      repeat' first
      | (with_reducible exact ih0 _ _)
      | (with_reducible exact ih1 _ _)
      | (with_reducible exact ih2 _ _)
      | (with_reducible exact spec_l3Node.mono _ _ _)
      | (with_reducible exact spec_l3Walk.mono _ _ _ _)
      | (with_reducible exact LeO.refl _)
      | (with_reducible exact LeO.none _)
      | (with_reducible refine LeO.ite ?_ ?_)
      | (with_reducible refine LeO.bind ?_ (fun _ => ?_))
      | exact ih0 _ _
      | exact ih1 _ _
      | exact ih2 _ _
      | exact spec_l3Node.mono _ _ _
      | exact spec_l3Walk.mono _ _ _ _
      | exact LeO.none _
      | refine LeO.ite ?_ ?_
      | refine LeO.bind ?_ (fun _ => ?_)
    · intro y0 y1
      unfold spec_l3Fault.l0
      repeat' first
      | (with_reducible exact ih0 _ _)
      | (with_reducible exact ih1 _ _)
      | (with_reducible exact ih2 _ _)
      | (with_reducible exact spec_l3Node.mono _ _ _)
      | (with_reducible exact spec_l3Walk.mono _ _ _ _)
      | (with_reducible exact LeO.refl _)
      | (with_reducible exact LeO.none _)
      | (with_reducible refine LeO.ite ?_ ?_)
      | (with_reducible refine LeO.bind ?_ (fun _ => ?_))
      | exact ih0 _ _
      | exact ih1 _ _
      | exact ih2 _ _
      | exact spec_l3Node.mono _ _ _
      | exact spec_l3Walk.mono _ _ _ _
      | exact LeO.none _
      | refine LeO.ite ?_ ?_
      | refine LeO.bind ?_ (fun _ => ?_)
    · intro y0 y1
      unfold spec_l3Fault.l1
      repeat' first
      | (with_reducible exact ih0 _ _)
      | (with_reducible exact ih1 _ _)
      | (with_reducible exact ih2 _ _)
      | (with_reducible exact spec_l3Node.mono _ _ _)
      | (with_reducible exact spec_l3Walk.mono _ _ _ _)
      | (with_reducible exact LeO.refl _)
      | (with_reducible exact LeO.none _)
      | (with_reducible refine LeO.ite ?_ ?_)
      | (with_reducible refine LeO.bind ?_ (fun _ => ?_))
      | exact ih0 _ _
      | exact ih1 _ _
      | exact ih2 _ _
      | exact spec_l3Node.mono _ _ _
      | exact spec_l3Walk.mono _ _ _ _
      | exact LeO.none _
      | refine LeO.ite ?_ ?_
      | refine LeO.bind ?_ (fun _ => ?_)
theorem spec_l3Fault.mono : ∀ a0 k, LeO (spec_l3Fault.f k a0) (spec_l3Fault.f (k + 1) a0) := by
  intro a0 k
  obtain ⟨ih0, ih1, ih2⟩ := spec_l3Fault.mono_l k
  unfold spec_l3Fault.f
  repeat' first
      | (with_reducible exact ih0 _ _)
      | (with_reducible exact ih1 _ _)
      | (with_reducible exact ih2 _ _)
      | (with_reducible exact spec_l3Node.mono _ _ _)
      | (with_reducible exact spec_l3Walk.mono _ _ _ _)
      | (with_reducible exact LeO.refl _)
      | (with_reducible exact LeO.none _)
      | (with_reducible refine LeO.ite ?_ ?_)
      | (with_reducible refine LeO.bind ?_ (fun _ => ?_))
      | exact ih0 _ _
      | exact ih1 _ _
      | exact ih2 _ _
      | exact spec_l3Node.mono _ _ _
      | exact spec_l3Walk.mono _ _ _ _
      | exact LeO.none _
      | refine LeO.ite ?_ ?_
      | refine LeO.bind ?_ (fun _ => ?_)
set_option maxHeartbeats 8000000 in
set_option maxRecDepth 100000 in
theorem spec_l3Fault.calls (k : Nat) (A0 : Option Addr) (c0 : Nat) (l0 : List (S54)) (r : Int) (w : World) (hr0 : Kd.C k54 w A0 l0.length l0) (hc0 : l0.length ≤ c0) (h : spec_l3Fault.f k l0 = some r) :
    Calls Try.prog 33 #[.slice A0 l0.length c0] w fun e w' => e = .returned (.int .i64 r) ∧ Below w.heap.size w w' := by
  have HR0 := Aside0.mk hr0
  have HC0 := Aside0.mk hc0
  clear hr0 hc0
  have HB := Aside0.mk (Below.refl w.heap.size w)
  have H : (if (l0.length : Int) < 1 then (spec_l3Fault.j0 k l0 true) else (spec_l3Fault.j0 k l0 (decide ((l0.length : Int) > 16)))) = some r := h
  clear h
  have HC2 := Aside0.mk H
  clear H
  go_enter Try.func33, Try.ntmps33
  go_upto_region 1 with (fail)
  go_cut [14] (fun v14 wc => ∃ (kq : Nat) (x14_1 : Bool), v14 = .bool x14_1 ∧ Aside0 (spec_l3Fault.j0 kq l0 x14_1 = some r) ∧ Aside0 (kq ≤ k) ∧ Aside0 (Below w.heap.size w wc))
  case first =>
    have H := HC2.out
    clear HC2
    by_cases c3 : (l0.length : Int) < 1
    · rw [if_pos c3] at H
      have c3b0 : decide ((l0.length : Int) < 1) = true := decide_eq_true c3
      have c3b1 : decide (l0.length < 1) = true := decide_eq_true (by omega)
      clear c3
      (first | rw [c3b0] | (simp only [i64_w, i32_w]; rw [c3b0]) | skip)
      have H' := Aside0.mk H
      clear H
      go_wp2
      go_meet
      case rel => exact ⟨_, (true), (by first | rfl | (simp; done) | (simp [*]; done)), H', ⟨by first | omega | exact Nat.le_refl _⟩, ⟨by repeat (first | (with_reducible first | exact HB.out | apply below_alloc | apply pw_below_drewN | apply below_drew1) | exact HB.out)⟩⟩
    · rw [if_neg c3] at H
      have c3b0 : decide ((l0.length : Int) < 1) = false := decide_eq_false c3
      have c3b1 : decide (l0.length < 1) = false := decide_eq_false (by omega)
      clear c3
      (first | rw [c3b0] | (simp only [i64_w, i32_w]; rw [c3b0]) | skip)
      have H' := Aside0.mk H
      clear H
      go_wp2
      go_meet
      case rel => exact ⟨_, (decide ((l0.length : Int) > 16)), (by first | rfl | (simp; done) | (simp [*]; done)), H', ⟨by first | omega | exact Nat.le_refl _⟩, ⟨by repeat (first | (with_reducible first | exact HB.out | apply below_alloc | apply pw_below_drewN | apply below_drew1) | exact HB.out)⟩⟩
  case rest =>
    clear HC2
    try clear p2
    try clear c3
    try clear c3b0
    try clear c3b1
    obtain ⟨kq, x14_1, rfl, HA, HJ1, HB⟩ := hcut
    cases kq with
    | zero => exact absurd HA.out (by simp [spec_l3Fault.j0])
    | succ kj1 =>
      have H := HA.out
      clear HA
      simp only [spec_l3Fault.j0] at H
      by_cases c4 : x14_1 = true
      · subst c4
        have H1 : (some 2) = some r := by rw [if_pos rfl] at H; exact H
        clear H
        have H := H1
        clear H1
        obtain rfl := Option.some.inj H
        go_wp2
        go_ret
        exact ⟨by first | rfl | (simp [errW_none, errW_some] <;> rfl) | (simp [*, errW_none, errW_some] <;> rfl), by repeat (first | (with_reducible first | exact HB.out | apply below_alloc | apply pw_below_drewN | apply below_drew1) | exact HB.out)⟩
      · replace c4 := Bool.eq_false_iff.mpr c4
        subst c4
        have H1 : (spec_l3Fault.l0 kj1 l0 0) = some r := by rw [if_neg (show ¬ (false = true) by decide)] at H; exact H
        clear H
        have H := H1
        clear H1
        have H' := Aside0.mk H
        clear H
        go_wp2
        go_loopg [3] kj1 (fun kq v3 w' => ∃ (x3_2 : Int), v3 = .int .i64 x3_2 ∧ Aside0 (spec_l3Fault.l0 kq l0 x3_2 = some r) ∧ Aside0 (kq ≤ kj1) ∧ Aside0 (Below w.heap.size w w'))
        case atStart => exact ⟨(0), (by first | rfl | (simp; done) | (simp [*]; done)), H', ⟨Nat.le_refl _⟩, ⟨by repeat (first | (with_reducible first | exact HB.out | apply below_alloc | apply pw_below_drewN | apply below_drew1) | exact HB.out)⟩⟩
        case round =>
          clear H'
          try clear p2
          try clear c3
          try clear c3b0
          try clear c3b1
          try clear c4
          try clear p2
          obtain ⟨x3_2, rfl, HA, HK2, HB⟩ := hrel
          cases gk with
          | zero => exact absurd HA.out (by simp [spec_l3Fault.l0])
          | succ k2 =>
            have H := HA.out
            clear HA
            simp only [spec_l3Fault.l0] at H
            by_cases c5 : x3_2 < (l0.length : Int)
            · rw [if_pos c5] at H
              have c5b0 : decide (x3_2 < (l0.length : Int)) = true := decide_eq_true c5
              clear c5
              by_cases c6 : 0 ≤ x3_2
              · rw [if_pos c6] at H
                have c6b0 : decide (0 ≤ x3_2) = true := decide_eq_true c6
                clear c6
                replace H := Option.bind_eq_some_iff.mp H
                obtain ⟨t133, A70, H⟩ := H
                replace H : (if t133 = 0 then (spec_l3Fault.l0 k2 l0 (wrap64 (x3_2 + 1))) else (some t133)) = some r := H
                have A7 := Aside0.mk A70
                clear A70
                by_cases c8 : t133 = 0
                · rw [if_pos c8] at H
                  have c8b0 : (t133 == 0) = true := beq_iff_eq.mpr c8
                  have c8b1 : (t133 != 0) = false := bne_eq_false_iff_eq.mpr c8
                  clear c8
                  have H' := Aside0.mk H
                  clear H
                  have p132 : 0 ≤ (x3_2 : Int) := of_decide_eq_true (by first | (with_reducible assumption) | assumption)
                  have q132 : x3_2 < (l0.length : Int) := of_decide_eq_true (by first | (with_reducible assumption) | assumption)
                  obtain ⟨ad132, e132, hx132_0, hx132_1, hx132_2, hx132_3⟩ := at_T54 HR0.out x3_2 p132 q132
                  cases e132
                  replace hx132_0 := (HB.out.cell (World.block_lt_of_cell? w _ hx132_0)).trans hx132_0
                  replace hx132_1 := (HB.out.cell (World.block_lt_of_cell? w _ hx132_1)).trans hx132_1
                  replace hx132_2 := (HB.out.cell (World.block_lt_of_cell? w _ hx132_2)).trans hx132_2
                  replace hx132_3 := (HB.out.cell (World.block_lt_of_cell? w _ hx132_3)).trans hx132_3
                  replace p132 := eq_true p132
                  replace q132 := eq_true q132
                  go_wp2_with (first | ((with_reducible refine gate_callee (f := 52) rfl ?_); refine goesL_ (some 25) rfl rfl Try.func52 (by kernel_rfl) rfl #[.pointer (some (ad132.add ((x3_2).toNat * 4))), .int .i64 x3_2] rfl (by (try simp only [List.map_toArray, List.map_cons, List.map_nil]); first | done | rfl | (simp only [List.length_drop, List.length_take]; rfl)) ?_; (with_reducible refine (spec_l3Node.calls k2 _ (rd_T54 l0 x3_2) x3_2 t133 _ ?side1 A7.out).mono ?_); (case side1 => refine C_one (by repeat (first | exact (Kd.C_below HR0.out HB.out) | (with_reducible refine Kd.C_alloc ?_ _) | (with_reducible refine Kd.C_drewN ?_ _) | (with_reducible refine Kd.C_drew ?_))) x3_2 (by first | omega | exact of_decide_eq_true (by first | (with_reducible assumption) | assumption)) (by first | exact of_decide_eq_true (by first | (with_reducible assumption) | assumption) | omega) _ rfl); rintro e w' ⟨rfl, ⟨nd, rfl⟩⟩; refine ⟨_, rfl, ?_⟩))
                  go_roundg k2
                  case measure => have := HJ1.out; have := HK2.out; omega
                  case rel => exact ⟨(wrap64 (x3_2 + 1)), (by first | rfl | (simp; done) | (simp [*]; done)), H', ⟨by have := HJ1.out; have := HK2.out; omega⟩, ⟨by repeat (first | (with_reducible first | exact HB.out | apply below_alloc | apply pw_below_drewN | apply below_drew1) | exact HB.out)⟩⟩
                · rw [if_neg c8] at H
                  have c8b0 : (t133 == 0) = false := beq_eq_false_iff_ne.mpr c8
                  have c8b1 : (t133 != 0) = true := bne_iff_ne.mpr c8
                  obtain rfl := Option.some.inj H
                  have p132 : 0 ≤ (x3_2 : Int) := of_decide_eq_true (by first | (with_reducible assumption) | assumption)
                  have q132 : x3_2 < (l0.length : Int) := of_decide_eq_true (by first | (with_reducible assumption) | assumption)
                  obtain ⟨ad132, e132, hx132_0, hx132_1, hx132_2, hx132_3⟩ := at_T54 HR0.out x3_2 p132 q132
                  cases e132
                  replace hx132_0 := (HB.out.cell (World.block_lt_of_cell? w _ hx132_0)).trans hx132_0
                  replace hx132_1 := (HB.out.cell (World.block_lt_of_cell? w _ hx132_1)).trans hx132_1
                  replace hx132_2 := (HB.out.cell (World.block_lt_of_cell? w _ hx132_2)).trans hx132_2
                  replace hx132_3 := (HB.out.cell (World.block_lt_of_cell? w _ hx132_3)).trans hx132_3
                  replace p132 := eq_true p132
                  replace q132 := eq_true q132
                  go_wp2_with (first | ((with_reducible refine gate_callee (f := 52) rfl ?_); refine goesL_ (some 25) rfl rfl Try.func52 (by kernel_rfl) rfl #[.pointer (some (ad132.add ((x3_2).toNat * 4))), .int .i64 x3_2] rfl (by (try simp only [List.map_toArray, List.map_cons, List.map_nil]); first | done | rfl | (simp only [List.length_drop, List.length_take]; rfl)) ?_; (with_reducible refine (spec_l3Node.calls k2 _ (rd_T54 l0 x3_2) x3_2 t133 _ ?side1 A7.out).mono ?_); (case side1 => refine C_one (by repeat (first | exact (Kd.C_below HR0.out HB.out) | (with_reducible refine Kd.C_alloc ?_ _) | (with_reducible refine Kd.C_drewN ?_ _) | (with_reducible refine Kd.C_drew ?_))) x3_2 (by first | omega | exact of_decide_eq_true (by first | (with_reducible assumption) | assumption)) (by first | exact of_decide_eq_true (by first | (with_reducible assumption) | assumption) | omega) _ rfl); rintro e w' ⟨rfl, ⟨nd, rfl⟩⟩; refine ⟨_, rfl, ?_⟩))
                  go_ret
                  exact ⟨by first | rfl | (simp [errW_none, errW_some] <;> rfl) | (simp [*, errW_none, errW_some] <;> rfl), by repeat (first | (with_reducible first | exact HB.out | apply below_alloc | apply pw_below_drewN | apply below_drew1) | exact HB.out)⟩
              · rw [if_neg c6] at H
                exact absurd H (by simp)
            · rw [if_neg c5] at H
              have c5b0 : decide (x3_2 < (l0.length : Int)) = false := decide_eq_false c5
              clear c5
              replace H := Option.bind_eq_some_iff.mp H
              obtain ⟨t134, A90, H⟩ := H
              replace H : (if (t134.length : Int) = (l0.length : Int) then (spec_l3Fault.l1 k2 t134 0) else (some 1)) = some r := H
              have A9 := Aside0.mk A90
              clear A90
              by_cases c10 : (t134.length : Int) = (l0.length : Int)
              · rw [if_pos c10] at H
                have c10b0 : ((t134.length : Int) == (l0.length : Int)) = true := beq_iff_eq.mpr c10
                have c10b1 : ((t134.length : Int) != (l0.length : Int)) = false := bne_eq_false_iff_eq.mpr c10
                have c10b2 : (t134.length == l0.length) = true := by first | simpa using c10 | (simp at c10 ⊢; omega)
                clear c10
                have H' := Aside0.mk H
                clear H
                go_wp2_with (first | ((with_reducible refine gate_callee (f := 53) rfl ?_); refine goesL_ (some 33) rfl rfl Try.func53 (by kernel_rfl) rfl #[.slice A0 l0.length c0, .int .i64 (wrap64 ((l0.length : Int) - 1)), .slice none 0 0] rfl (by (try simp only [List.map_toArray, List.map_cons, List.map_nil]); first | done | rfl | (simp only [List.length_drop, List.length_take]; rfl)) ?_; (refine (spec_l3Walk.calls k2 _ _ l0 (wrap64 ((l0.length : Int) - 1)) (fun k_ => some k_ = (.slice none 0 0 : Value).ownBlock) (.slice none 0 0) ([] : List Int) t134 w _ ?side1 ?side2 ?side3 ?side4 A9.out).mono ?_); (case side1 => repeat (first | (with_reducible first | exact HB.out | apply below_alloc | apply pw_below_drewN | apply below_drew1) | exact HB.out)); (case side2 => exact Kd.C_kept_came k54_heap HR0.out (by repeat (first | (with_reducible first | exact HB.out | apply below_alloc | apply pw_below_drewN | apply below_drew1) | exact HB.out)) (fun k_ hs_ => (fun e_ => by simp [Value.ownBlock] at e_) hs_)); (case side3 => exact HC0.out); (case side4 => exact Kd.R_nil _ _ _ _ _); rintro e w11 ⟨v135, rfl, ho0, hb, hkp⟩; refine ⟨_, rfl, ?_⟩; have n0_ := Aside0.mk (Kd.R_mono (ok' := fun k_ => True) ho0 (fun k_ hk_ => trivial)); have n1_ := Aside0.mk (hb); clear HB; have HO136 := n0_; have HB := n1_; clear n0_ n1_; (try clear hb); (try clear hkp); (try clear ho0); obtain ⟨Ao12, co12, eo12⟩ := Kd.R_slice HO136.out; subst eo12))
                go_loopg [6] k2 (fun kq v6 w' => ∃ (x6_3 : Int), v6 = .int .i64 x6_3 ∧ Aside0 (spec_l3Fault.l1 kq t134 x6_3 = some r) ∧ Aside0 (kq ≤ k2) ∧ Aside0 (Kd.R (Kd.int .i64) 2 w' w.heap.size (fun _ => True) (.slice Ao12 t134.length co12) t134) ∧ Aside0 (Below w.heap.size w w'))
                case atStart => exact ⟨(0), (by first | rfl | (simp; done) | (simp [*]; done)), H', ⟨Nat.le_refl _⟩, ⟨by (with_reducible repeat (first | apply Kd.R_alloc | apply Kd.R_drewN | apply Kd.R_drew)); exact HO136.out⟩, ⟨by repeat (first | (with_reducible first | exact HB.out | apply below_alloc | apply pw_below_drewN | apply below_drew1) | exact HB.out)⟩⟩
                case round =>
                  clear H'
                  try clear c1
                  try clear p1
                  try clear q1
                  try clear hx1
                  try clear p2
                  try clear c3
                  try clear c3b0
                  try clear c3b1
                  try clear c4
                  try clear c5
                  try clear c5b0
                  try clear c6
                  try clear c6b0
                  try clear p6
                  try clear c8
                  try clear c8b0
                  try clear c8b1
                  try clear c10
                  try clear c10b0
                  try clear c10b1
                  try clear c10b2
                  try clear hx132_0
                  try clear hx132_1
                  try clear hx132_2
                  try clear hx132_3
                  try clear p132
                  try clear p2
                  try clear q132
                  obtain ⟨x6_3, rfl, HA, HK3, HO_5, HB⟩ := hrel
                  cases gk with
                  | zero => exact absurd HA.out (by simp [spec_l3Fault.l1])
                  | succ k3 =>
                    have H := HA.out
                    clear HA
                    simp only [spec_l3Fault.l1] at H
                    by_cases c13 : x6_3 < (t134.length : Int)
                    · rw [if_pos c13] at H
                      have c13b0 : decide (x6_3 < (t134.length : Int)) = true := decide_eq_true c13
                      clear c13
                      by_cases c14 : 0 ≤ x6_3
                      · rw [if_pos c14] at H
                        have c14b0 : decide (0 ≤ x6_3) = true := decide_eq_true c14
                        clear c14
                        by_cases c15 : (rd t134 x6_3) = x6_3
                        · rw [if_pos c15] at H
                          have c15b0 : ((rd t134 x6_3) == x6_3) = true := beq_iff_eq.mpr c15
                          have c15b1 : ((rd t134 x6_3) != x6_3) = false := bne_eq_false_iff_eq.mpr c15
                          clear c15
                          have H' := Aside0.mk H
                          clear H
                          have p137 : 0 ≤ (x6_3 : Int) := of_decide_eq_true (by first | (with_reducible assumption) | assumption)
                          have q137 : x6_3 < (t134.length : Int) := of_decide_eq_true (by first | (with_reducible assumption) | assumption)
                          obtain ⟨ad137, e137, hx137_0⟩ := Kd.at_int (Kd.R_reads' HO_5.out).2.2 x6_3 p137 q137
                          cases e137
                          replace p137 := eq_true p137
                          replace q137 := eq_true q137
                          go_wp2
                          go_roundg k3
                          case measure => have := HJ1.out; have := HK2.out; have := HK3.out; omega
                          case rel => exact ⟨(wrap64 (x6_3 + 1)), (by first | rfl | (simp; done) | (simp [*]; done)), H', ⟨by have := HJ1.out; have := HK2.out; have := HK3.out; omega⟩, ⟨by (with_reducible repeat (first | apply Kd.R_alloc | apply Kd.R_drewN | apply Kd.R_drew)); exact HO_5.out⟩, ⟨by repeat (first | (with_reducible first | exact HB.out | apply below_alloc | apply pw_below_drewN | apply below_drew1) | exact HB.out)⟩⟩
                        · rw [if_neg c15] at H
                          have c15b0 : ((rd t134 x6_3) == x6_3) = false := beq_eq_false_iff_ne.mpr c15
                          have c15b1 : ((rd t134 x6_3) != x6_3) = true := bne_iff_ne.mpr c15
                          obtain rfl := Option.some.inj H
                          have p137 : 0 ≤ (x6_3 : Int) := of_decide_eq_true (by first | (with_reducible assumption) | assumption)
                          have q137 : x6_3 < (t134.length : Int) := of_decide_eq_true (by first | (with_reducible assumption) | assumption)
                          obtain ⟨ad137, e137, hx137_0⟩ := Kd.at_int (Kd.R_reads' HO_5.out).2.2 x6_3 p137 q137
                          cases e137
                          replace p137 := eq_true p137
                          replace q137 := eq_true q137
                          go_wp2
                          go_ret
                          exact ⟨by first | rfl | (simp [errW_none, errW_some] <;> rfl) | (simp [*, errW_none, errW_some] <;> rfl), by repeat (first | (with_reducible first | exact HB.out | apply below_alloc | apply pw_below_drewN | apply below_drew1) | exact HB.out)⟩
                      · rw [if_neg c14] at H
                        exact absurd H (by simp)
                    · rw [if_neg c13] at H
                      have c13b0 : decide (x6_3 < (t134.length : Int)) = false := decide_eq_false c13
                      clear c13
                      obtain rfl := Option.some.inj H
                      go_wp2
                      go_ret
                      exact ⟨by first | rfl | (simp [errW_none, errW_some] <;> rfl) | (simp [*, errW_none, errW_some] <;> rfl), by repeat (first | (with_reducible first | exact HB.out | apply below_alloc | apply pw_below_drewN | apply below_drew1) | exact HB.out)⟩
              · rw [if_neg c10] at H
                have c10b0 : ((t134.length : Int) == (l0.length : Int)) = false := beq_eq_false_iff_ne.mpr c10
                have c10b1 : ((t134.length : Int) != (l0.length : Int)) = true := bne_iff_ne.mpr c10
                have c10b2 : (t134.length == l0.length) = false := by first | simpa using c10 | (simp at c10 ⊢; omega)
                obtain rfl := Option.some.inj H
                go_wp2_with (first | ((with_reducible refine gate_callee (f := 53) rfl ?_); refine goesL_ (some 33) rfl rfl Try.func53 (by kernel_rfl) rfl #[.slice A0 l0.length c0, .int .i64 (wrap64 ((l0.length : Int) - 1)), .slice none 0 0] rfl (by (try simp only [List.map_toArray, List.map_cons, List.map_nil]); first | done | rfl | (simp only [List.length_drop, List.length_take]; rfl)) ?_; (refine (spec_l3Walk.calls k2 _ _ l0 (wrap64 ((l0.length : Int) - 1)) (fun k_ => some k_ = (.slice none 0 0 : Value).ownBlock) (.slice none 0 0) ([] : List Int) t134 w _ ?side1 ?side2 ?side3 ?side4 A9.out).mono ?_); (case side1 => repeat (first | (with_reducible first | exact HB.out | apply below_alloc | apply pw_below_drewN | apply below_drew1) | exact HB.out)); (case side2 => exact Kd.C_kept_came k54_heap HR0.out (by repeat (first | (with_reducible first | exact HB.out | apply below_alloc | apply pw_below_drewN | apply below_drew1) | exact HB.out)) (fun k_ hs_ => (fun e_ => by simp [Value.ownBlock] at e_) hs_)); (case side3 => exact HC0.out); (case side4 => exact Kd.R_nil _ _ _ _ _); rintro e w16 ⟨v135, rfl, ho0, hb, hkp⟩; refine ⟨_, rfl, ?_⟩; have n0_ := Aside0.mk (Kd.R_mono (ok' := fun k_ => True) ho0 (fun k_ hk_ => trivial)); have n1_ := Aside0.mk (hb); clear HB; have HO136 := n0_; have HB := n1_; clear n0_ n1_; (try clear hb); (try clear hkp); (try clear ho0); obtain ⟨Ao17, co17, eo17⟩ := Kd.R_slice HO136.out; subst eo17))
                go_ret
                exact ⟨by first | rfl | (simp [errW_none, errW_some] <;> rfl) | (simp [*, errW_none, errW_some] <;> rfl), by repeat (first | (with_reducible first | exact HB.out | apply below_alloc | apply pw_below_drewN | apply below_drew1) | exact HB.out)⟩

end Go.Proofs.Ytfgidohkkbmfjaa.Q
