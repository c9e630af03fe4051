-- Written by a program of this session's own (xp.py) for this seat.
import Derived.Test.YtjlcajhlggoleaaH0
import Derived.Test.YtjlcajhlggoleaaH4
import Derived.Test.YtjlcajhlggoleaaH5
namespace Go.Proofs.Ytjlcajhlggoleaa.H
open Go.RowKit Go.Proofs.YtjlcajhlggoleaaW.PrintWords Go.Proofs.YtjlcajhlggoleaaW.PrintLast Go.Proofs.YtjlcajhlggoleaaW.PrintMore
attribute [local go_sem] Instr.field asAgg
attribute [local go_sem] max2_int min2_int max_two min_two max_three min_three max_four min_four   -- for this text's walks alone
set_option linter.unusedVariables false
set_option linter.unusedSimpArgs false

/-! ### spec_l6Fault: function 95 -/
mutual
def spec_l6Fault.j0 : Nat → S62 → Bool → Option (Int)
  | 0, _, _ => none
  | k + 1, x0, x29 => if x29 = true then (some 2) else (spec_l6Fault.l0 k x0 0)
def spec_l6Fault.l0 : Nat → S62 → Int → Option (Int)
  | 0, _, _ => none
  | k + 1, x0, x3 => if x3 < (((rd_T62 [x0] 0).f0).length : Int) then (if 0 ≤ x3 then ((spec_l1In.f ((rd_T115 ((rd_T62 [x0] 0).f0) x3).f0) 1 13).bind fun t194 => (if t194 = true then ((spec_l6Bare.f (rd_T115 ((rd_T62 [x0] 0).f0) x3)).bind fun t195 => (spec_l6Fault.j2 k x0 x3 ((rd_T62 [x0] 0).f0) (!t195))) else (spec_l6Fault.j2 k x0 x3 ((rd_T62 [x0] 0).f0) true))) else (none)) else (spec_l6Fault.l1 k x0 0)
def spec_l6Fault.j2 : Nat → S62 → Int → List (S115) → Bool → Option (Int)
  | 0, _, _, _, _ => none
  | k + 1, x0, x3, x34, x55 => if x55 = true then (some 1) else (if 0 ≤ x3 then (if x3 < (x34.length : Int) then ((spec_l1In.f ((rd_T115 x34 x3).f1) 0 23).bind fun t197 => (if t197 = true then ((spec_l1In.f ((rd_T115 x34 x3).f3) 0 99).bind fun t198 => (spec_l6Fault.j3 k x0 x3 x34 (!t198))) else (spec_l6Fault.j3 k x0 x3 x34 true))) else (none)) else (none))
def spec_l6Fault.j3 : Nat → S62 → Int → List (S115) → Bool → Option (Int)
  | 0, _, _, _, _ => none
  | k + 1, x0, x3, x34, x69 => if x69 = true then (some 3) else (if 0 ≤ x3 then (if x3 < (x34.length : Int) then (if (((rd_T115 x34 x3).f4).length : Int) > 16 then (some 2) else (if ((rd_T115 x34 x3).f0) = 3 then ((spec_l1Name.f k ((rd_T115 x34 x3).f2)).bind fun t200 => (if t200 = 0 then (spec_l6Fault.l0 k x0 (wrap64 (x3 + 1))) else (some t200))) else (spec_l6Fault.l0 k x0 (wrap64 (x3 + 1))))) else (none)) else (none))
def spec_l6Fault.l1 : Nat → S62 → Int → Option (Int)
  | 0, _, _ => none
  | k + 1, x0, x6 => if x6 < (((rd_T62 [x0] 0).f1).length : Int) then (if 0 ≤ x6 then ((spec_l1In.f ((rd_T119 ((rd_T62 [x0] 0).f1) x6).f0) 0 (wrap64 ((((rd_T62 [x0] 0).f0).length : Int) - 1))).bind fun t204 => (if t204 = true then ((spec_l1In.f ((rd_T119 ((rd_T62 [x0] 0).f1) x6).f1) 0 (wrap64 ((((rd_T62 [x0] 0).f0).length : Int) - 1))).bind fun t205 => (spec_l6Fault.j5 k x0 x6 ((rd_T62 [x0] 0).f1) (!t205))) else (spec_l6Fault.j5 k x0 x6 ((rd_T62 [x0] 0).f1) true))) else (none)) else (some 0)
def spec_l6Fault.j5 : Nat → S62 → Int → List (S119) → Bool → Option (Int)
  | 0, _, _, _, _ => none
  | k + 1, x0, x6, x93, x129 => if x129 = true then (some 3) else (if 0 ≤ x6 then (if x6 < (x93.length : Int) then (if (((rd_T119 x93 x6).f2).length : Int) > 16 then (some 2) else (if x6 > 0 then (if 0 ≤ (wrap64 (x6 - 1)) then (if (wrap64 (x6 - 1)) < (((rd_T62 [x0] 0).f1).length : Int) then (if ((rd_T119 x93 x6).f0) < ((rd_T119 ((rd_T62 [x0] 0).f1) (wrap64 (x6 - 1))).f0) then (some 1) else (spec_l6Fault.l1 k x0 (wrap64 (x6 + 1)))) else (none)) else (none)) else (spec_l6Fault.l1 k x0 (wrap64 (x6 + 1))))) else (none)) else (none))
end
def spec_l6Fault.f (k : Nat) (a0 : S62) : Option (Int) := if (((rd_T62 [a0] 0).f0).length : Int) < 2 then (spec_l6Fault.j0 k a0 true) else (if (((rd_T62 [a0] 0).f0).length : Int) > 60 then (spec_l6Fault.j0 k a0 true) else (spec_l6Fault.j0 k a0 (decide ((((rd_T62 [a0] 0).f1).length : Int) > 80))))
theorem spec_l6Fault.mono_l : ∀ k, (∀ y0 y1, LeO (spec_l6Fault.j0 k y0 y1) (spec_l6Fault.j0 (k + 1) y0 y1)) ∧ (∀ y0 y1, LeO (spec_l6Fault.l0 k y0 y1) (spec_l6Fault.l0 (k + 1) y0 y1)) ∧ (∀ y0 y1 y2 y3, LeO (spec_l6Fault.j2 k y0 y1 y2 y3) (spec_l6Fault.j2 (k + 1) y0 y1 y2 y3)) ∧ (∀ y0 y1 y2 y3, LeO (spec_l6Fault.j3 k y0 y1 y2 y3) (spec_l6Fault.j3 (k + 1) y0 y1 y2 y3)) ∧ (∀ y0 y1, LeO (spec_l6Fault.l1 k y0 y1) (spec_l6Fault.l1 (k + 1) y0 y1)) ∧ (∀ y0 y1 y2 y3, LeO (spec_l6Fault.j5 k y0 y1 y2 y3) (spec_l6Fault.j5 (k + 1) y0 y1 y2 y3))
  | 0 => ⟨fun _ _ r h => by simp [spec_l6Fault.j0] at h, fun _ _ r h => by simp [spec_l6Fault.l0] at h, fun _ _ _ _ r h => by simp [spec_l6Fault.j2] at h, fun _ _ _ _ r h => by simp [spec_l6Fault.j3] at h, fun _ _ r h => by simp [spec_l6Fault.l1] at h, fun _ _ _ _ r h => by simp [spec_l6Fault.j5] at h⟩
  | k + 1 => by
    obtain ⟨ih0, ih1, ih2, ih3, ih4, ih5⟩ := spec_l6Fault.mono_l k
    refine ⟨?_, ?_, ?_, ?_, ?_, ?_⟩
    · intro y0 y1
      unfold spec_l6Fault.j0
      repeat' first
      | (with_reducible exact ih0 _ _)
      | (with_reducible exact ih1 _ _)
      | (with_reducible exact ih2 _ _ _ _)
      | (with_reducible exact ih3 _ _ _ _)
      | (with_reducible exact ih4 _ _)
      | (with_reducible exact ih5 _ _ _ _)
      | (with_reducible exact spec_l1Name.mono _ _)
      | (with_reducible exact LeO.refl _)
      | (with_reducible exact LeO.none _)
      | (with_reducible refine LeO.ite ?_ ?_)
      | (with_reducible refine LeO.bind ?_ (fun _ => ?_))
      | exact ih0 _ _
      | exact ih1 _ _
      | exact ih2 _ _ _ _
      | exact ih3 _ _ _ _
      | exact ih4 _ _
      | exact ih5 _ _ _ _
      | exact spec_l1Name.mono _ _
      | exact LeO.none _
      | refine LeO.ite ?_ ?_
      | refine LeO.bind ?_ (fun _ => ?_)
    · intro y0 y1
      unfold spec_l6Fault.l0
      repeat' first
      | (with_reducible exact ih0 _ _)
      | (with_reducible exact ih1 _ _)
      | (with_reducible exact ih2 _ _ _ _)
      | (with_reducible exact ih3 _ _ _ _)
      | (with_reducible exact ih4 _ _)
      | (with_reducible exact ih5 _ _ _ _)
      | (with_reducible exact spec_l1Name.mono _ _)
      | (with_reducible exact LeO.refl _)
      | (with_reducible exact LeO.none _)
      | (with_reducible refine LeO.ite ?_ ?_)
      | (with_reducible refine LeO.bind ?_ (fun _ => ?_))
      | exact ih0 _ _
      | exact ih1 _ _
      | exact ih2 _ _ _ _
      | exact ih3 _ _ _ _
      | exact ih4 _ _
      | exact ih5 _ _ _ _
      | exact spec_l1Name.mono _ _
      | exact LeO.none _
      | refine LeO.ite ?_ ?_
      | refine LeO.bind ?_ (fun _ => ?_)
    · intro y0 y1 y2 y3
      unfold spec_l6Fault.j2
      repeat' first
      | (with_reducible exact ih0 _ _)
      | (with_reducible exact ih1 _ _)
      | (with_reducible exact ih2 _ _ _ _)
      | (with_reducible exact ih3 _ _ _ _)
      | (with_reducible exact ih4 _ _)
      | (with_reducible exact ih5 _ _ _ _)
      | (with_reducible exact spec_l1Name.mono _ _)
      | (with_reducible exact LeO.refl _)
      | (with_reducible exact LeO.none _)
      | (with_reducible refine LeO.ite ?_ ?_)
      | (with_reducible refine LeO.bind ?_ (fun _ => ?_))
      | exact ih0 _ _
      | exact ih1 _ _
      | exact ih2 _ _ _ _
      | exact ih3 _ _ _ _
      | exact ih4 _ _
      | exact ih5 _ _ _ _
      | exact spec_l1Name.mono _ _
      | exact LeO.none _
      | refine LeO.ite ?_ ?_
      | refine LeO.bind ?_ (fun _ => ?_)
    · intro y0 y1 y2 y3
      unfold spec_l6Fault.j3
      repeat' first
      | (with_reducible exact ih0 _ _)
      | (with_reducible exact ih1 _ _)
      | (with_reducible exact ih2 _ _ _ _)
      | (with_reducible exact ih3 _ _ _ _)
      | (with_reducible exact ih4 _ _)
      | (with_reducible exact ih5 _ _ _ _)
      | (with_reducible exact spec_l1Name.mono _ _)
      | (with_reducible exact LeO.refl _)
      | (with_reducible exact LeO.none _)
      | (with_reducible refine LeO.ite ?_ ?_)
      | (with_reducible refine LeO.bind ?_ (fun _ => ?_))
      | exact ih0 _ _
      | exact ih1 _ _
      | exact ih2 _ _ _ _
      | exact ih3 _ _ _ _
      | exact ih4 _ _
      | exact ih5 _ _ _ _
      | exact spec_l1Name.mono _ _
      | exact LeO.none _
      | refine LeO.ite ?_ ?_
      | refine LeO.bind ?_ (fun _ => ?_)
    · intro y0 y1
      unfold spec_l6Fault.l1
      repeat' first
      | (with_reducible exact ih0 _ _)
      | (with_reducible exact ih1 _ _)
      | (with_reducible exact ih2 _ _ _ _)
      | (with_reducible exact ih3 _ _ _ _)
      | (with_reducible exact ih4 _ _)
      | (with_reducible exact ih5 _ _ _ _)
      | (with_reducible exact spec_l1Name.mono _ _)
      | (with_reducible exact LeO.refl _)
      | (with_reducible exact LeO.none _)
      | (with_reducible refine LeO.ite ?_ ?_)
      | (with_reducible refine LeO.bind ?_ (fun _ => ?_))
      | exact ih0 _ _
      | exact ih1 _ _
      | exact ih2 _ _ _ _
      | exact ih3 _ _ _ _
      | exact ih4 _ _
      | exact ih5 _ _ _ _
      | exact spec_l1Name.mono _ _
      | exact LeO.none _
      | refine LeO.ite ?_ ?_
      | refine LeO.bind ?_ (fun _ => ?_)
    · intro y0 y1 y2 y3
      unfold spec_l6Fault.j5
      repeat' first
      | (with_reducible exact ih0 _ _)
      | (with_reducible exact ih1 _ _)
      | (with_reducible exact ih2 _ _ _ _)
      | (with_reducible exact ih3 _ _ _ _)
      | (with_reducible exact ih4 _ _)
      | (with_reducible exact ih5 _ _ _ _)
      | (with_reducible exact spec_l1Name.mono _ _)
      | (with_reducible exact LeO.refl _)
      | (with_reducible exact LeO.none _)
      | (with_reducible refine LeO.ite ?_ ?_)
      | (with_reducible refine LeO.bind ?_ (fun _ => ?_))
      | exact ih0 _ _
      | exact ih1 _ _
      | exact ih2 _ _ _ _
      | exact ih3 _ _ _ _
      | exact ih4 _ _
      | exact ih5 _ _ _ _
      | exact spec_l1Name.mono _ _
      | exact LeO.none _
      | refine LeO.ite ?_ ?_
      | refine LeO.bind ?_ (fun _ => ?_)
theorem spec_l6Fault.mono : ∀ a0 k, LeO (spec_l6Fault.f k a0) (spec_l6Fault.f (k + 1) a0) := by
  intro a0 k
  obtain ⟨ih0, ih1, ih2, ih3, ih4, ih5⟩ := spec_l6Fault.mono_l k
  unfold spec_l6Fault.f
  repeat' first
      | (with_reducible exact ih0 _ _)
      | (with_reducible exact ih1 _ _)
      | (with_reducible exact ih2 _ _ _ _)
      | (with_reducible exact ih3 _ _ _ _)
      | (with_reducible exact ih4 _ _)
      | (with_reducible exact ih5 _ _ _ _)
      | (with_reducible exact spec_l1Name.mono _ _)
      | (with_reducible exact LeO.refl _)
      | (with_reducible exact LeO.none _)
      | (with_reducible refine LeO.ite ?_ ?_)
      | (with_reducible refine LeO.bind ?_ (fun _ => ?_))
      | exact ih0 _ _
      | exact ih1 _ _
      | exact ih2 _ _ _ _
      | exact ih3 _ _ _ _
      | exact ih4 _ _
      | exact ih5 _ _ _ _
      | exact spec_l1Name.mono _ _
      | exact LeO.none _
      | refine LeO.ite ?_ ?_
      | refine LeO.bind ?_ (fun _ => ?_)
set_option maxHeartbeats 8000000 in
set_option maxRecDepth 100000 in
theorem spec_l6Fault.calls (k : Nat) (adp0 : Addr) (a0 : S62) (r : Int) (w : World) (hr0 : Kd.C k62 w (some adp0) 1 [a0]) (h : spec_l6Fault.f k a0 = some r) :
    Calls Try.prog 95 #[.pointer (some adp0)] w fun e w' => e = .returned (.int .i64 r) ∧ Drawn0 w w' := by
  have HR0 := Aside0.mk hr0
  clear hr0
  have H : (if (((rd_T62 [a0] 0).f0).length : Int) < 2 then (spec_l6Fault.j0 k a0 true) else (if (((rd_T62 [a0] 0).f0).length : Int) > 60 then (spec_l6Fault.j0 k a0 true) else (spec_l6Fault.j0 k a0 (decide ((((rd_T62 [a0] 0).f1).length : Int) > 80))))) = some r := h
  clear h
  have HC2 := Aside0.mk H
  clear H
  go_enter Try.func95, Try.ntmps95
  go_upto_region 1 with (fail)
  repeat (go_quiet (fail); go_upto_region 1 with (fail))
  go_cut [29] (fun v29 wc => ∃ (kq : Nat) (x29_1 : Bool), v29 = .bool x29_1 ∧ Aside0 (spec_l6Fault.j0 kq a0 x29_1 = some r) ∧ Aside0 (kq ≤ k) ∧ Drawn0 w wc)
  case first =>
    have H := HC2.out
    clear HC2
    by_cases c3 : (((rd_T62 [a0] 0).f0).length : Int) < 2
    · rw [if_pos c3] at H
      have c3b0 : decide ((((rd_T62 [a0] 0).f0).length : Int) < 2) = true := decide_eq_true c3
      have c3b1 : decide (((rd_T62 [a0] 0).f0).length < 2) = true := decide_eq_true (by omega)
      clear c3
      (first | rw [c3b0] | (simp only [i64_w, i32_w]; rw [c3b0]) | skip)
      have H' := Aside0.mk H
      clear H
      have p190 : 0 ≤ (0 : Int) := (by omega)
      have q190 : 0 < ([a0].length : Int) := (by simp)
      obtain ⟨ad190, A190_0, c190_0, A190_1, c190_1, e190, hx190_0, hx190_1, hl190_0, hi190_0, hl190_1, hi190_1⟩ := at_T62 HR0.out 0 p190 q190
      obtain rfl : adp0 = ad190 := (by injection e190)
      have qi190 : (0 < [a0].length) = True := eq_true (by omega)
      (try rw [show ((0 : Int)).toNat = 0 from rfl] at hx190_0)
      (try rw [show 0 * 2 = 0 from rfl] at hx190_0)
      (try rw [Addr.add_zero'] at hx190_0)
      (try rw [show ((0 : Int)).toNat = 0 from rfl] at hx190_1)
      (try rw [show 0 * 2 = 0 from rfl] at hx190_1)
      (try rw [Addr.add_zero'] at hx190_1)
      have HR190_0 := Aside0.mk hi190_0
      have HC190_0 := Aside0.mk hl190_0
      clear hi190_0 hl190_0
      have HR190_1 := Aside0.mk hi190_1
      have HC190_1 := Aside0.mk hl190_1
      clear hi190_1 hl190_1
      replace p190 := eq_true p190
      replace q190 := eq_true q190
      go_wp2
      repeat (go_quiet (fail); try go_wp2)
      go_meet
      case rel => exact ⟨_, (true), (by first | rfl | (simp; done) | (simp [*]; done)), H', ⟨by first | omega | exact Nat.le_refl _⟩, by repeat (first | exact Drawn0.refl _ | apply Drawn0.step)⟩
    · rw [if_neg c3] at H
      have c3b0 : decide ((((rd_T62 [a0] 0).f0).length : Int) < 2) = false := decide_eq_false c3
      have c3b1 : decide (((rd_T62 [a0] 0).f0).length < 2) = false := decide_eq_false (by omega)
      clear c3
      (first | rw [c3b0] | (simp only [i64_w, i32_w]; rw [c3b0]) | skip)
      by_cases c4 : (((rd_T62 [a0] 0).f0).length : Int) > 60
      · rw [if_pos c4] at H
        have c4b0 : decide (60 < (((rd_T62 [a0] 0).f0).length : Int)) = true := decide_eq_true c4
        have c4b1 : decide (60 < ((rd_T62 [a0] 0).f0).length) = true := decide_eq_true (by omega)
        clear c4
        have H' := Aside0.mk H
        clear H
        have p190 : 0 ≤ (0 : Int) := (by omega)
        have q190 : 0 < ([a0].length : Int) := (by simp)
        obtain ⟨ad190, A190_0, c190_0, A190_1, c190_1, e190, hx190_0, hx190_1, hl190_0, hi190_0, hl190_1, hi190_1⟩ := at_T62 HR0.out 0 p190 q190
        obtain rfl : adp0 = ad190 := (by injection e190)
        have qi190 : (0 < [a0].length) = True := eq_true (by omega)
        (try rw [show ((0 : Int)).toNat = 0 from rfl] at hx190_0)
        (try rw [show 0 * 2 = 0 from rfl] at hx190_0)
        (try rw [Addr.add_zero'] at hx190_0)
        (try rw [show ((0 : Int)).toNat = 0 from rfl] at hx190_1)
        (try rw [show 0 * 2 = 0 from rfl] at hx190_1)
        (try rw [Addr.add_zero'] at hx190_1)
        have HR190_0 := Aside0.mk hi190_0
        have HC190_0 := Aside0.mk hl190_0
        clear hi190_0 hl190_0
        have HR190_1 := Aside0.mk hi190_1
        have HC190_1 := Aside0.mk hl190_1
        clear hi190_1 hl190_1
        replace p190 := eq_true p190
        replace q190 := eq_true q190
        go_wp2
        repeat (go_quiet (fail); try go_wp2)
        go_meet
        case rel => exact ⟨_, (true), (by first | rfl | (simp; done) | (simp [*]; done)), H', ⟨by first | omega | exact Nat.le_refl _⟩, by repeat (first | exact Drawn0.refl _ | apply Drawn0.step)⟩
      · rw [if_neg c4] at H
        have c4b0 : decide (60 < (((rd_T62 [a0] 0).f0).length : Int)) = false := decide_eq_false c4
        have c4b1 : decide (60 < ((rd_T62 [a0] 0).f0).length) = false := decide_eq_false (by omega)
        clear c4
        have H' := Aside0.mk H
        clear H
        have p190 : 0 ≤ (0 : Int) := (by omega)
        have q190 : 0 < ([a0].length : Int) := (by simp)
        obtain ⟨ad190, A190_0, c190_0, A190_1, c190_1, e190, hx190_0, hx190_1, hl190_0, hi190_0, hl190_1, hi190_1⟩ := at_T62 HR0.out 0 p190 q190
        obtain rfl : adp0 = ad190 := (by injection e190)
        have qi190 : (0 < [a0].length) = True := eq_true (by omega)
        (try rw [show ((0 : Int)).toNat = 0 from rfl] at hx190_0)
        (try rw [show 0 * 2 = 0 from rfl] at hx190_0)
        (try rw [Addr.add_zero'] at hx190_0)
        (try rw [show ((0 : Int)).toNat = 0 from rfl] at hx190_1)
        (try rw [show 0 * 2 = 0 from rfl] at hx190_1)
        (try rw [Addr.add_zero'] at hx190_1)
        have HR190_0 := Aside0.mk hi190_0
        have HC190_0 := Aside0.mk hl190_0
        clear hi190_0 hl190_0
        have HR190_1 := Aside0.mk hi190_1
        have HC190_1 := Aside0.mk hl190_1
        clear hi190_1 hl190_1
        replace p190 := eq_true p190
        replace q190 := eq_true q190
        go_wp2
        repeat (go_quiet (fail); try go_wp2)
        go_meet
        case rel => exact ⟨_, (decide ((((rd_T62 [a0] 0).f1).length : Int) > 80)), (by first | rfl | (simp; done) | (simp [*]; done)), H', ⟨by first | omega | exact Nat.le_refl _⟩, by repeat (first | exact Drawn0.refl _ | apply Drawn0.step)⟩
  case rest =>
    clear HC2
    try clear c1
    try clear p1
    try clear q1
    try clear hx1
    try clear qi1
    try clear p2
    try clear c3
    try clear c3b0
    try clear c3b1
    try clear c4
    try clear c4b0
    try clear c4b1
    try clear hx190_0
    try clear hx190_1
    try clear p190
    try clear q190
    obtain ⟨kq, x29_1, rfl, HA, HJ1, ⟨mc1, rfl⟩⟩ := hcut
    cases kq with
    | zero => exact absurd HA.out (by simp [spec_l6Fault.j0])
    | succ kj1 =>
      have H := HA.out
      clear HA
      simp only [spec_l6Fault.j0] at H
      by_cases c5 : x29_1 = true
      · subst c5
        have H1 : (some 2) = some r := by rw [if_pos rfl] at H; exact H
        clear H
        have H := H1
        clear H1
        obtain rfl := Option.some.inj H
        go_wp2
        repeat (go_quiet (fail); try go_wp2)
        go_ret
        exact ⟨by first | rfl | (simp; done) | (simp [*]; done), by repeat (first | exact Drawn0.refl _ | apply Drawn0.step)⟩
      · replace c5 := Bool.eq_false_iff.mpr c5
        subst c5
        have H1 : (spec_l6Fault.l0 kj1 a0 0) = some r := by rw [if_neg (show ¬ (false = true) by decide)] at H; exact H
        clear H
        have H := H1
        clear H1
        have H' := Aside0.mk H
        clear H
        go_wp2
        repeat (go_quiet (fail); try go_wp2)
        go_loopg [3] kj1 (fun kq v3 w' => ∃ (x3_2 : Int), v3 = .int .i64 x3_2 ∧ Aside0 (spec_l6Fault.l0 kq a0 x3_2 = some r) ∧ Aside0 (kq ≤ kj1) ∧ Drawn0 w w')
        case atStart => exact ⟨(0), (by first | rfl | (simp; done) | (simp [*]; done)), H', ⟨Nat.le_refl _⟩, by repeat (first | exact Drawn0.refl _ | apply Drawn0.step)⟩
        case round =>
          clear H'
          try clear c1
          try clear p1
          try clear q1
          try clear hx1
          try clear qi1
          try clear p2
          try clear c3
          try clear c3b0
          try clear c3b1
          try clear c4
          try clear c4b0
          try clear c4b1
          try clear c5
          try clear hx190_0
          try clear hx190_1
          try clear p1
          try clear p190
          try clear p2
          try clear q1
          try clear q190
          obtain ⟨x3_2, rfl, HA, HK2, ⟨m2, rfl⟩⟩ := hrel
          cases gk with
          | zero => exact absurd HA.out (by simp [spec_l6Fault.l0])
          | succ k2 =>
            have H := HA.out
            clear HA
            simp only [spec_l6Fault.l0] at H
            by_cases c6 : x3_2 < (((rd_T62 [a0] 0).f0).length : Int)
            · rw [if_pos c6] at H
              have c6b0 : decide (x3_2 < (((rd_T62 [a0] 0).f0).length : Int)) = true := decide_eq_true c6
              clear c6
              by_cases c7 : 0 ≤ x3_2
              · rw [if_pos c7] at H
                have c7b0 : decide (0 ≤ x3_2) = true := decide_eq_true c7
                clear c7
                have HC8 := Aside0.mk H
                clear H
                have p191 : 0 ≤ (0 : Int) := (by omega)
                have q191 : 0 < ([a0].length : Int) := (by simp)
                obtain ⟨ad191, A191_0, c191_0, A191_1, c191_1, e191, hx191_0, hx191_1, hl191_0, hi191_0, hl191_1, hi191_1⟩ := at_T62 HR0.out 0 p191 q191
                obtain rfl : adp0 = ad191 := (by injection e191)
                have qi191 : (0 < [a0].length) = True := eq_true (by omega)
                (try rw [show ((0 : Int)).toNat = 0 from rfl] at hx191_0)
                (try rw [show 0 * 2 = 0 from rfl] at hx191_0)
                (try rw [Addr.add_zero'] at hx191_0)
                (try rw [show ((0 : Int)).toNat = 0 from rfl] at hx191_1)
                (try rw [show 0 * 2 = 0 from rfl] at hx191_1)
                (try rw [Addr.add_zero'] at hx191_1)
                have HR191_0 := Aside0.mk hi191_0
                have HC191_0 := Aside0.mk hl191_0
                clear hi191_0 hl191_0
                have HR191_1 := Aside0.mk hi191_1
                have HC191_1 := Aside0.mk hl191_1
                clear hi191_1 hl191_1
                replace p191 := eq_true p191
                replace q191 := eq_true q191
                have p192 : 0 ≤ (x3_2 : Int) := of_decide_eq_true (by first | (with_reducible assumption) | assumption)
                have q192 : x3_2 < (((rd_T62 [a0] 0).f0).length : Int) := of_decide_eq_true (by first | (with_reducible assumption) | assumption)
                obtain ⟨ad192, A192_4, c192_4, e192, hx192_0, hx192_1, hx192_2, hx192_3, hx192_4, hl192_4, hi192_4⟩ := at_T115 HR191_0.out x3_2 p192 q192
                cases e192
                have HR192_4 := Aside0.mk hi192_4
                have HC192_4 := Aside0.mk hl192_4
                clear hi192_4 hl192_4
                replace p192 := eq_true p192
                replace q192 := eq_true q192
                go_upto_region 7 with (fail)
                repeat (go_quiet (fail); go_upto_region 7 with (fail))
                go_cut [55] (fun v55 wc => ∃ (kq : Nat) (x55_7 : Bool), v55 = .bool x55_7 ∧ Aside0 (spec_l6Fault.j2 kq a0 x3_2 ((rd_T62 [a0] 0).f0) x55_7 = some r) ∧ Aside0 (kq ≤ k2) ∧ Drawn0 w wc)
                case first =>
                  have H := HC8.out
                  clear HC8
                  replace H := Option.bind_eq_some_iff.mp H
                  obtain ⟨t194, A90, H⟩ := H
                  replace H : (if t194 = true then ((spec_l6Bare.f (rd_T115 ((rd_T62 [a0] 0).f0) x3_2)).bind fun t195 => (spec_l6Fault.j2 k2 a0 x3_2 ((rd_T62 [a0] 0).f0) (!t195))) else (spec_l6Fault.j2 k2 a0 x3_2 ((rd_T62 [a0] 0).f0) true)) = some r := H
                  have A9 := Aside0.mk A90
                  clear A90
                  by_cases c10 : t194 = true
                  · subst c10
                    have H1 : ((spec_l6Bare.f (rd_T115 ((rd_T62 [a0] 0).f0) x3_2)).bind fun t195 => (spec_l6Fault.j2 k2 a0 x3_2 ((rd_T62 [a0] 0).f0) (!t195))) = some r := by rw [if_pos rfl] at H; exact H
                    clear H
                    have H := H1
                    clear H1
                    replace H := Option.bind_eq_some_iff.mp H
                    obtain ⟨t195, A110, H⟩ := H
                    replace H : (spec_l6Fault.j2 k2 a0 x3_2 ((rd_T62 [a0] 0).f0) (!t195)) = some r := H
                    have A11 := Aside0.mk A110
                    clear A110
                    have H' := Aside0.mk H
                    clear H
                    have p193 : 0 ≤ (x3_2 : Int) := of_decide_eq_true (by first | (with_reducible assumption) | assumption)
                    have q193 : x3_2 < (((rd_T62 [a0] 0).f0).length : Int) := of_decide_eq_true (by first | (with_reducible assumption) | assumption)
                    obtain ⟨ad193, A193_4, c193_4, e193, hx193_0, hx193_1, hx193_2, hx193_3, hx193_4, hl193_4, hi193_4⟩ := at_T115 HR191_0.out x3_2 p193 q193
                    obtain rfl : ad192 = ad193 := (by injection e193)
                    have HR193_4 := Aside0.mk hi193_4
                    have HC193_4 := Aside0.mk hl193_4
                    clear hi193_4 hl193_4
                    replace p193 := eq_true p193
                    replace q193 := eq_true q193
                    go_wp2_with (first | (go_at_call 55; (with_reducible refine (spec_l1In.calls ((rd_T115 ((rd_T62 [a0] 0).f0) x3_2).f0) 1 13 true _ A9.out).mono ?_); rintro e w' ⟨rfl, ⟨nd, rfl⟩⟩; (try first | exact ⟨rfl, _, World.drewN_drewN _ _ _⟩ | exact ⟨rfl, _, Eq.trans (World.drewN_drewN _ _ _) (congrArg (World.drewN _) (Nat.add_assoc _ _ _))⟩)) | (go_at_call 117; (with_reducible refine (spec_l6Bare.calls _ (rd_T115 ((rd_T62 [a0] 0).f0) x3_2) t195 _ ?side1 A11.out).mono ?_); (case side1 => refine C_one (by repeat (first | exact HR191_0.out | (with_reducible refine Kd.C_alloc ?_ _) | (with_reducible refine Kd.C_drewN ?_ _) | (with_reducible refine Kd.C_drew ?_))) x3_2 (by first | omega | exact of_decide_eq_true (by first | (with_reducible assumption) | assumption)) (by first | exact of_decide_eq_true (by first | (with_reducible assumption) | assumption) | omega) _ rfl); rintro e w' ⟨rfl, ⟨nd, rfl⟩⟩; (try first | exact ⟨rfl, _, World.drewN_drewN _ _ _⟩ | exact ⟨rfl, _, Eq.trans (World.drewN_drewN _ _ _) (congrArg (World.drewN _) (Nat.add_assoc _ _ _))⟩)) | go_quiet (first | (go_at_call 55; (with_reducible refine (spec_l1In.calls ((rd_T115 ((rd_T62 [a0] 0).f0) x3_2).f0) 1 13 true _ A9.out).mono ?_); rintro e w' ⟨rfl, ⟨nd, rfl⟩⟩; (try first | exact ⟨rfl, _, World.drewN_drewN _ _ _⟩ | exact ⟨rfl, _, Eq.trans (World.drewN_drewN _ _ _) (congrArg (World.drewN _) (Nat.add_assoc _ _ _))⟩)) | (go_at_call 117; (with_reducible refine (spec_l6Bare.calls _ (rd_T115 ((rd_T62 [a0] 0).f0) x3_2) t195 _ ?side1 A11.out).mono ?_); (case side1 => refine C_one (by repeat (first | exact HR191_0.out | (with_reducible refine Kd.C_alloc ?_ _) | (with_reducible refine Kd.C_drewN ?_ _) | (with_reducible refine Kd.C_drew ?_))) x3_2 (by first | omega | exact of_decide_eq_true (by first | (with_reducible assumption) | assumption)) (by first | exact of_decide_eq_true (by first | (with_reducible assumption) | assumption) | omega) _ rfl); rintro e w' ⟨rfl, ⟨nd, rfl⟩⟩; (try first | exact ⟨rfl, _, World.drewN_drewN _ _ _⟩ | exact ⟨rfl, _, Eq.trans (World.drewN_drewN _ _ _) (congrArg (World.drewN _) (Nat.add_assoc _ _ _))⟩))))
                    go_meet
                    case rel => exact ⟨_, (!t195), (by first | rfl | (simp; done) | (simp [*]; done)), H', ⟨by have := HJ1.out; have := HK2.out; first | omega | exact Nat.le_refl _⟩, by repeat (first | exact Drawn0.refl _ | apply Drawn0.step)⟩
                  · replace c10 := Bool.eq_false_iff.mpr c10
                    subst c10
                    have H1 : (spec_l6Fault.j2 k2 a0 x3_2 ((rd_T62 [a0] 0).f0) true) = some r := by rw [if_neg (show ¬ (false = true) by decide)] at H; exact H
                    clear H
                    have H := H1
                    clear H1
                    have H' := Aside0.mk H
                    clear H
                    have p193 : 0 ≤ (x3_2 : Int) := of_decide_eq_true (by first | (with_reducible assumption) | assumption)
                    have q193 : x3_2 < (((rd_T62 [a0] 0).f0).length : Int) := of_decide_eq_true (by first | (with_reducible assumption) | assumption)
                    obtain ⟨ad193, A193_4, c193_4, e193, hx193_0, hx193_1, hx193_2, hx193_3, hx193_4, hl193_4, hi193_4⟩ := at_T115 HR191_0.out x3_2 p193 q193
                    obtain rfl : ad192 = ad193 := (by injection e193)
                    have HR193_4 := Aside0.mk hi193_4
                    have HC193_4 := Aside0.mk hl193_4
                    clear hi193_4 hl193_4
                    replace p193 := eq_true p193
                    replace q193 := eq_true q193
                    go_wp2_with (first | (go_at_call 55; (with_reducible refine (spec_l1In.calls ((rd_T115 ((rd_T62 [a0] 0).f0) x3_2).f0) 1 13 false _ A9.out).mono ?_); rintro e w' ⟨rfl, ⟨nd, rfl⟩⟩; (try first | exact ⟨rfl, _, World.drewN_drewN _ _ _⟩ | exact ⟨rfl, _, Eq.trans (World.drewN_drewN _ _ _) (congrArg (World.drewN _) (Nat.add_assoc _ _ _))⟩)) | go_quiet (first | (go_at_call 55; (with_reducible refine (spec_l1In.calls ((rd_T115 ((rd_T62 [a0] 0).f0) x3_2).f0) 1 13 false _ A9.out).mono ?_); rintro e w' ⟨rfl, ⟨nd, rfl⟩⟩; (try first | exact ⟨rfl, _, World.drewN_drewN _ _ _⟩ | exact ⟨rfl, _, Eq.trans (World.drewN_drewN _ _ _) (congrArg (World.drewN _) (Nat.add_assoc _ _ _))⟩))))
                    go_meet
                    case rel => exact ⟨_, (true), (by first | rfl | (simp; done) | (simp [*]; done)), H', ⟨by have := HJ1.out; have := HK2.out; first | omega | exact Nat.le_refl _⟩, by repeat (first | exact Drawn0.refl _ | apply Drawn0.step)⟩
                case rest =>
                  clear HC8
                  try clear c1
                  try clear p1
                  try clear q1
                  try clear hx1
                  try clear qi1
                  try clear p2
                  try clear c3
                  try clear c3b0
                  try clear c3b1
                  try clear c4
                  try clear c4b0
                  try clear c4b1
                  try clear c5
                  try clear c6
                  try clear c6b0
                  try clear c7
                  try clear c7b0
                  try clear c9
                  try clear c10
                  try clear hx190_0
                  try clear hx190_1
                  try clear hx191_0
                  try clear hx191_1
                  try clear hx192_0
                  try clear hx192_1
                  try clear hx192_2
                  try clear hx192_3
                  try clear hx192_4
                  try clear hx193_0
                  try clear hx193_1
                  try clear hx193_2
                  try clear hx193_3
                  try clear hx193_4
                  try clear p1
                  try clear p190
                  try clear p191
                  try clear p192
                  try clear p193
                  try clear p2
                  try clear q1
                  try clear q190
                  try clear q191
                  try clear q192
                  try clear q193
                  obtain ⟨kq, x55_7, rfl, HA, HJ7, ⟨mc7, rfl⟩⟩ := hcut
                  cases kq with
                  | zero => exact absurd HA.out (by simp [spec_l6Fault.j2])
                  | succ kj7 =>
                    have H := HA.out
                    clear HA
                    simp only [spec_l6Fault.j2] at H
                    by_cases c12 : x55_7 = true
                    · subst c12
                      have H1 : (some 1) = some r := by rw [if_pos rfl] at H; exact H
                      clear H
                      have H := H1
                      clear H1
                      obtain rfl := Option.some.inj H
                      go_wp2
                      repeat (go_quiet (fail); try go_wp2)
                      go_ret
                      exact ⟨by first | rfl | (simp; done) | (simp [*]; done), by repeat (first | exact Drawn0.refl _ | apply Drawn0.step)⟩
                    · replace c12 := Bool.eq_false_iff.mpr c12
                      subst c12
                      have H1 : (if 0 ≤ x3_2 then (if x3_2 < (((rd_T62 [a0] 0).f0).length : Int) then ((spec_l1In.f ((rd_T115 ((rd_T62 [a0] 0).f0) x3_2).f1) 0 23).bind fun t197 => (if t197 = true then ((spec_l1In.f ((rd_T115 ((rd_T62 [a0] 0).f0) x3_2).f3) 0 99).bind fun t198 => (spec_l6Fault.j3 kj7 a0 x3_2 ((rd_T62 [a0] 0).f0) (!t198))) else (spec_l6Fault.j3 kj7 a0 x3_2 ((rd_T62 [a0] 0).f0) true))) else (none)) else (none)) = some r := by rw [if_neg (show ¬ (false = true) by decide)] at H; exact H
                      clear H
                      have H := H1
                      clear H1
                      have HC13 := Aside0.mk H
                      clear H
                      go_upto_region 9 with (fail)
                      repeat (go_quiet (fail); go_upto_region 9 with (fail))
                      go_cut [69] (fun v69 wc => ∃ (kq : Nat) (x69_12 : Bool), v69 = .bool x69_12 ∧ Aside0 (spec_l6Fault.j3 kq a0 x3_2 ((rd_T62 [a0] 0).f0) x69_12 = some r) ∧ Aside0 (kq ≤ kj7) ∧ Drawn0 w wc)
                      case first =>
                        have H := HC13.out
                        clear HC13
                        by_cases c14 : 0 ≤ x3_2
                        · rw [if_pos c14] at H
                          have c14b0 : decide (0 ≤ x3_2) = true := decide_eq_true c14
                          clear c14
                          (first | rw [c14b0] | (simp only [i64_w, i32_w]; rw [c14b0]) | skip)
                          by_cases c15 : x3_2 < (((rd_T62 [a0] 0).f0).length : Int)
                          · rw [if_pos c15] at H
                            have c15b0 : decide (x3_2 < (((rd_T62 [a0] 0).f0).length : Int)) = true := decide_eq_true c15
                            clear c15
                            replace H := Option.bind_eq_some_iff.mp H
                            obtain ⟨t197, A160, H⟩ := H
                            replace H : (if t197 = true then ((spec_l1In.f ((rd_T115 ((rd_T62 [a0] 0).f0) x3_2).f3) 0 99).bind fun t198 => (spec_l6Fault.j3 kj7 a0 x3_2 ((rd_T62 [a0] 0).f0) (!t198))) else (spec_l6Fault.j3 kj7 a0 x3_2 ((rd_T62 [a0] 0).f0) true)) = some r := H
                            have A16 := Aside0.mk A160
                            clear A160
                            by_cases c17 : t197 = true
                            · subst c17
                              have H1 : ((spec_l1In.f ((rd_T115 ((rd_T62 [a0] 0).f0) x3_2).f3) 0 99).bind fun t198 => (spec_l6Fault.j3 kj7 a0 x3_2 ((rd_T62 [a0] 0).f0) (!t198))) = some r := by rw [if_pos rfl] at H; exact H
                              clear H
                              have H := H1
                              clear H1
                              replace H := Option.bind_eq_some_iff.mp H
                              obtain ⟨t198, A180, H⟩ := H
                              replace H : (spec_l6Fault.j3 kj7 a0 x3_2 ((rd_T62 [a0] 0).f0) (!t198)) = some r := H
                              have A18 := Aside0.mk A180
                              clear A180
                              have H' := Aside0.mk H
                              clear H
                              have p196 : 0 ≤ (x3_2 : Int) := of_decide_eq_true (by first | (with_reducible assumption) | assumption)
                              have q196 : x3_2 < (((rd_T62 [a0] 0).f0).length : Int) := of_decide_eq_true (by first | (with_reducible assumption) | assumption)
                              obtain ⟨ad196, A196_4, c196_4, e196, hx196_0, hx196_1, hx196_2, hx196_3, hx196_4, hl196_4, hi196_4⟩ := at_T115 HR191_0.out x3_2 p196 q196
                              obtain rfl : ad192 = ad196 := (by injection e196)
                              have HR196_4 := Aside0.mk hi196_4
                              have HC196_4 := Aside0.mk hl196_4
                              clear hi196_4 hl196_4
                              replace p196 := eq_true p196
                              replace q196 := eq_true q196
                              go_wp2_with (first | (go_at_call 55; (with_reducible refine (spec_l1In.calls ((rd_T115 ((rd_T62 [a0] 0).f0) x3_2).f1) 0 23 true _ A16.out).mono ?_); rintro e w' ⟨rfl, ⟨nd, rfl⟩⟩; (try first | exact ⟨rfl, _, World.drewN_drewN _ _ _⟩ | exact ⟨rfl, _, Eq.trans (World.drewN_drewN _ _ _) (congrArg (World.drewN _) (Nat.add_assoc _ _ _))⟩)) | (go_at_call 55; (with_reducible refine (spec_l1In.calls ((rd_T115 ((rd_T62 [a0] 0).f0) x3_2).f3) 0 99 t198 _ A18.out).mono ?_); rintro e w' ⟨rfl, ⟨nd, rfl⟩⟩; (try first | exact ⟨rfl, _, World.drewN_drewN _ _ _⟩ | exact ⟨rfl, _, Eq.trans (World.drewN_drewN _ _ _) (congrArg (World.drewN _) (Nat.add_assoc _ _ _))⟩)) | go_quiet (first | (go_at_call 55; (with_reducible refine (spec_l1In.calls ((rd_T115 ((rd_T62 [a0] 0).f0) x3_2).f1) 0 23 true _ A16.out).mono ?_); rintro e w' ⟨rfl, ⟨nd, rfl⟩⟩; (try first | exact ⟨rfl, _, World.drewN_drewN _ _ _⟩ | exact ⟨rfl, _, Eq.trans (World.drewN_drewN _ _ _) (congrArg (World.drewN _) (Nat.add_assoc _ _ _))⟩)) | (go_at_call 55; (with_reducible refine (spec_l1In.calls ((rd_T115 ((rd_T62 [a0] 0).f0) x3_2).f3) 0 99 t198 _ A18.out).mono ?_); rintro e w' ⟨rfl, ⟨nd, rfl⟩⟩; (try first | exact ⟨rfl, _, World.drewN_drewN _ _ _⟩ | exact ⟨rfl, _, Eq.trans (World.drewN_drewN _ _ _) (congrArg (World.drewN _) (Nat.add_assoc _ _ _))⟩))))
                              go_meet
                              case rel => exact ⟨_, (!t198), (by first | rfl | (simp; done) | (simp [*]; done)), H', ⟨by have := HJ1.out; have := HK2.out; have := HJ7.out; first | omega | exact Nat.le_refl _⟩, by repeat (first | exact Drawn0.refl _ | apply Drawn0.step)⟩
                            · replace c17 := Bool.eq_false_iff.mpr c17
                              subst c17
                              have H1 : (spec_l6Fault.j3 kj7 a0 x3_2 ((rd_T62 [a0] 0).f0) true) = some r := by rw [if_neg (show ¬ (false = true) by decide)] at H; exact H
                              clear H
                              have H := H1
                              clear H1
                              have H' := Aside0.mk H
                              clear H
                              have p196 : 0 ≤ (x3_2 : Int) := of_decide_eq_true (by first | (with_reducible assumption) | assumption)
                              have q196 : x3_2 < (((rd_T62 [a0] 0).f0).length : Int) := of_decide_eq_true (by first | (with_reducible assumption) | assumption)
                              obtain ⟨ad196, A196_4, c196_4, e196, hx196_0, hx196_1, hx196_2, hx196_3, hx196_4, hl196_4, hi196_4⟩ := at_T115 HR191_0.out x3_2 p196 q196
                              obtain rfl : ad192 = ad196 := (by injection e196)
                              have HR196_4 := Aside0.mk hi196_4
                              have HC196_4 := Aside0.mk hl196_4
                              clear hi196_4 hl196_4
                              replace p196 := eq_true p196
                              replace q196 := eq_true q196
                              go_wp2_with (first | (go_at_call 55; (with_reducible refine (spec_l1In.calls ((rd_T115 ((rd_T62 [a0] 0).f0) x3_2).f1) 0 23 false _ A16.out).mono ?_); rintro e w' ⟨rfl, ⟨nd, rfl⟩⟩; (try first | exact ⟨rfl, _, World.drewN_drewN _ _ _⟩ | exact ⟨rfl, _, Eq.trans (World.drewN_drewN _ _ _) (congrArg (World.drewN _) (Nat.add_assoc _ _ _))⟩)) | go_quiet (first | (go_at_call 55; (with_reducible refine (spec_l1In.calls ((rd_T115 ((rd_T62 [a0] 0).f0) x3_2).f1) 0 23 false _ A16.out).mono ?_); rintro e w' ⟨rfl, ⟨nd, rfl⟩⟩; (try first | exact ⟨rfl, _, World.drewN_drewN _ _ _⟩ | exact ⟨rfl, _, Eq.trans (World.drewN_drewN _ _ _) (congrArg (World.drewN _) (Nat.add_assoc _ _ _))⟩))))
                              go_meet
                              case rel => exact ⟨_, (true), (by first | rfl | (simp; done) | (simp [*]; done)), H', ⟨by have := HJ1.out; have := HK2.out; have := HJ7.out; first | omega | exact Nat.le_refl _⟩, by repeat (first | exact Drawn0.refl _ | apply Drawn0.step)⟩
                          · rw [if_neg c15] at H
                            exact absurd H (by simp)
                        · rw [if_neg c14] at H
                          exact absurd H (by simp)
                      case rest =>
                        clear HC13
                        try clear c1
                        try clear p1
                        try clear q1
                        try clear hx1
                        try clear qi1
                        try clear p2
                        try clear c3
                        try clear c3b0
                        try clear c3b1
                        try clear c4
                        try clear c4b0
                        try clear c4b1
                        try clear c5
                        try clear c6
                        try clear c6b0
                        try clear c7
                        try clear c7b0
                        try clear c9
                        try clear c10
                        try clear c12
                        try clear c14
                        try clear c14b0
                        try clear c15
                        try clear c15b0
                        try clear c17
                        try clear hx190_0
                        try clear hx190_1
                        try clear hx191_0
                        try clear hx191_1
                        try clear hx192_0
                        try clear hx192_1
                        try clear hx192_2
                        try clear hx192_3
                        try clear hx192_4
                        try clear hx193_0
                        try clear hx193_1
                        try clear hx193_2
                        try clear hx193_3
                        try clear hx193_4
                        try clear hx196_0
                        try clear hx196_1
                        try clear hx196_2
                        try clear hx196_3
                        try clear hx196_4
                        try clear p1
                        try clear p190
                        try clear p191
                        try clear p192
                        try clear p193
                        try clear p196
                        try clear p2
                        try clear q1
                        try clear q190
                        try clear q191
                        try clear q192
                        try clear q193
                        try clear q196
                        obtain ⟨kq, x69_12, rfl, HA, HJ12, ⟨mc12, rfl⟩⟩ := hcut
                        cases kq with
                        | zero => exact absurd HA.out (by simp [spec_l6Fault.j3])
                        | succ kj12 =>
                          have H := HA.out
                          clear HA
                          simp only [spec_l6Fault.j3] at H
                          by_cases c19 : x69_12 = true
                          · subst c19
                            have H1 : (some 3) = some r := by rw [if_pos rfl] at H; exact H
                            clear H
                            have H := H1
                            clear H1
                            obtain rfl := Option.some.inj H
                            go_wp2
                            repeat (go_quiet (fail); try go_wp2)
                            go_ret
                            exact ⟨by first | rfl | (simp; done) | (simp [*]; done), by repeat (first | exact Drawn0.refl _ | apply Drawn0.step)⟩
                          · replace c19 := Bool.eq_false_iff.mpr c19
                            subst c19
                            have H1 : (if 0 ≤ x3_2 then (if x3_2 < (((rd_T62 [a0] 0).f0).length : Int) then (if (((rd_T115 ((rd_T62 [a0] 0).f0) x3_2).f4).length : Int) > 16 then (some 2) else (if ((rd_T115 ((rd_T62 [a0] 0).f0) x3_2).f0) = 3 then ((spec_l1Name.f kj12 ((rd_T115 ((rd_T62 [a0] 0).f0) x3_2).f2)).bind fun t200 => (if t200 = 0 then (spec_l6Fault.l0 kj12 a0 (wrap64 (x3_2 + 1))) else (some t200))) else (spec_l6Fault.l0 kj12 a0 (wrap64 (x3_2 + 1))))) else (none)) else (none)) = some r := by rw [if_neg (show ¬ (false = true) by decide)] at H; exact H
                            clear H
                            have H := H1
                            clear H1
                            by_cases c20 : 0 ≤ x3_2
                            · rw [if_pos c20] at H
                              have c20b0 : decide (0 ≤ x3_2) = true := decide_eq_true c20
                              clear c20
                              by_cases c21 : x3_2 < (((rd_T62 [a0] 0).f0).length : Int)
                              · rw [if_pos c21] at H
                                have c21b0 : decide (x3_2 < (((rd_T62 [a0] 0).f0).length : Int)) = true := decide_eq_true c21
                                clear c21
                                by_cases c22 : (((rd_T115 ((rd_T62 [a0] 0).f0) x3_2).f4).length : Int) > 16
                                · rw [if_pos c22] at H
                                  have c22b0 : decide (16 < (((rd_T115 ((rd_T62 [a0] 0).f0) x3_2).f4).length : Int)) = true := decide_eq_true c22
                                  have c22b1 : decide (16 < ((rd_T115 ((rd_T62 [a0] 0).f0) x3_2).f4).length) = true := decide_eq_true (by omega)
                                  clear c22
                                  obtain rfl := Option.some.inj H
                                  have p199 : 0 ≤ (x3_2 : Int) := of_decide_eq_true (by first | (with_reducible assumption) | assumption)
                                  have q199 : x3_2 < (((rd_T62 [a0] 0).f0).length : Int) := of_decide_eq_true (by first | (with_reducible assumption) | assumption)
                                  obtain ⟨ad199, A199_4, c199_4, e199, hx199_0, hx199_1, hx199_2, hx199_3, hx199_4, hl199_4, hi199_4⟩ := at_T115 HR191_0.out x3_2 p199 q199
                                  obtain rfl : ad192 = ad199 := (by injection e199)
                                  have HR199_4 := Aside0.mk hi199_4
                                  have HC199_4 := Aside0.mk hl199_4
                                  clear hi199_4 hl199_4
                                  replace p199 := eq_true p199
                                  replace q199 := eq_true q199
                                  go_wp2
                                  repeat (go_quiet (fail); try go_wp2)
                                  go_ret
                                  exact ⟨by first | rfl | (simp; done) | (simp [*]; done), by repeat (first | exact Drawn0.refl _ | apply Drawn0.step)⟩
                                · rw [if_neg c22] at H
                                  have c22b0 : decide (16 < (((rd_T115 ((rd_T62 [a0] 0).f0) x3_2).f4).length : Int)) = false := decide_eq_false c22
                                  have c22b1 : decide (16 < ((rd_T115 ((rd_T62 [a0] 0).f0) x3_2).f4).length) = false := decide_eq_false (by omega)
                                  clear c22
                                  by_cases c23 : ((rd_T115 ((rd_T62 [a0] 0).f0) x3_2).f0) = 3
                                  · rw [if_pos c23] at H
                                    have c23b0 : (((rd_T115 ((rd_T62 [a0] 0).f0) x3_2).f0) == 3) = true := beq_iff_eq.mpr c23
                                    have c23b1 : (((rd_T115 ((rd_T62 [a0] 0).f0) x3_2).f0) != 3) = false := bne_eq_false_iff_eq.mpr c23
                                    clear c23
                                    replace H := Option.bind_eq_some_iff.mp H
                                    obtain ⟨t200, A240, H⟩ := H
                                    replace H : (if t200 = 0 then (spec_l6Fault.l0 kj12 a0 (wrap64 (x3_2 + 1))) else (some t200)) = some r := H
                                    have A24 := Aside0.mk A240
                                    clear A240
                                    by_cases c25 : t200 = 0
                                    · rw [if_pos c25] at H
                                      have c25b0 : (t200 == 0) = true := beq_iff_eq.mpr c25
                                      have c25b1 : (t200 != 0) = false := bne_eq_false_iff_eq.mpr c25
                                      clear c25
                                      have H' := Aside0.mk H
                                      clear H
                                      have p199 : 0 ≤ (x3_2 : Int) := of_decide_eq_true (by first | (with_reducible assumption) | assumption)
                                      have q199 : x3_2 < (((rd_T62 [a0] 0).f0).length : Int) := of_decide_eq_true (by first | (with_reducible assumption) | assumption)
                                      obtain ⟨ad199, A199_4, c199_4, e199, hx199_0, hx199_1, hx199_2, hx199_3, hx199_4, hl199_4, hi199_4⟩ := at_T115 HR191_0.out x3_2 p199 q199
                                      obtain rfl : ad192 = ad199 := (by injection e199)
                                      have HR199_4 := Aside0.mk hi199_4
                                      have HC199_4 := Aside0.mk hl199_4
                                      clear hi199_4 hl199_4
                                      replace p199 := eq_true p199
                                      replace q199 := eq_true q199
                                      go_wp2_with (first | (go_at_call 51; (with_reducible refine (spec_l1Name.calls kj12 ((rd_T115 ((rd_T62 [a0] 0).f0) x3_2).f2) t200 _ A24.out).mono ?_); rintro e w' ⟨rfl, ⟨nd, rfl⟩⟩; (try first | exact ⟨rfl, _, World.drewN_drewN _ _ _⟩ | exact ⟨rfl, _, Eq.trans (World.drewN_drewN _ _ _) (congrArg (World.drewN _) (Nat.add_assoc _ _ _))⟩)) | go_quiet (first | (go_at_call 51; (with_reducible refine (spec_l1Name.calls kj12 ((rd_T115 ((rd_T62 [a0] 0).f0) x3_2).f2) t200 _ A24.out).mono ?_); rintro e w' ⟨rfl, ⟨nd, rfl⟩⟩; (try first | exact ⟨rfl, _, World.drewN_drewN _ _ _⟩ | exact ⟨rfl, _, Eq.trans (World.drewN_drewN _ _ _) (congrArg (World.drewN _) (Nat.add_assoc _ _ _))⟩))))
                                      go_roundg kj12
                                      case measure => have := HJ1.out; have := HK2.out; have := HJ7.out; have := HJ12.out; omega
                                      case rel => exact ⟨(wrap64 (x3_2 + 1)), (by first | rfl | (simp; done) | (simp [*]; done)), H', ⟨by have := HJ1.out; have := HK2.out; have := HJ7.out; have := HJ12.out; omega⟩, by repeat (first | exact Drawn0.refl _ | apply Drawn0.step)⟩
                                    · rw [if_neg c25] at H
                                      have c25b0 : (t200 == 0) = false := beq_eq_false_iff_ne.mpr c25
                                      have c25b1 : (t200 != 0) = true := bne_iff_ne.mpr c25
                                      obtain rfl := Option.some.inj H
                                      have p199 : 0 ≤ (x3_2 : Int) := of_decide_eq_true (by first | (with_reducible assumption) | assumption)
                                      have q199 : x3_2 < (((rd_T62 [a0] 0).f0).length : Int) := of_decide_eq_true (by first | (with_reducible assumption) | assumption)
                                      obtain ⟨ad199, A199_4, c199_4, e199, hx199_0, hx199_1, hx199_2, hx199_3, hx199_4, hl199_4, hi199_4⟩ := at_T115 HR191_0.out x3_2 p199 q199
                                      obtain rfl : ad192 = ad199 := (by injection e199)
                                      have HR199_4 := Aside0.mk hi199_4
                                      have HC199_4 := Aside0.mk hl199_4
                                      clear hi199_4 hl199_4
                                      replace p199 := eq_true p199
                                      replace q199 := eq_true q199
                                      go_wp2_with (first | (go_at_call 51; (with_reducible refine (spec_l1Name.calls kj12 ((rd_T115 ((rd_T62 [a0] 0).f0) x3_2).f2) t200 _ A24.out).mono ?_); rintro e w' ⟨rfl, ⟨nd, rfl⟩⟩; (try first | exact ⟨rfl, _, World.drewN_drewN _ _ _⟩ | exact ⟨rfl, _, Eq.trans (World.drewN_drewN _ _ _) (congrArg (World.drewN _) (Nat.add_assoc _ _ _))⟩)) | go_quiet (first | (go_at_call 51; (with_reducible refine (spec_l1Name.calls kj12 ((rd_T115 ((rd_T62 [a0] 0).f0) x3_2).f2) t200 _ A24.out).mono ?_); rintro e w' ⟨rfl, ⟨nd, rfl⟩⟩; (try first | exact ⟨rfl, _, World.drewN_drewN _ _ _⟩ | exact ⟨rfl, _, Eq.trans (World.drewN_drewN _ _ _) (congrArg (World.drewN _) (Nat.add_assoc _ _ _))⟩))))
                                      go_ret
                                      exact ⟨by first | rfl | (simp; done) | (simp [*]; done), by repeat (first | exact Drawn0.refl _ | apply Drawn0.step)⟩
                                  · rw [if_neg c23] at H
                                    have c23b0 : (((rd_T115 ((rd_T62 [a0] 0).f0) x3_2).f0) == 3) = false := beq_eq_false_iff_ne.mpr c23
                                    have c23b1 : (((rd_T115 ((rd_T62 [a0] 0).f0) x3_2).f0) != 3) = true := bne_iff_ne.mpr c23
                                    have H' := Aside0.mk H
                                    clear H
                                    have p199 : 0 ≤ (x3_2 : Int) := of_decide_eq_true (by first | (with_reducible assumption) | assumption)
                                    have q199 : x3_2 < (((rd_T62 [a0] 0).f0).length : Int) := of_decide_eq_true (by first | (with_reducible assumption) | assumption)
                                    obtain ⟨ad199, A199_4, c199_4, e199, hx199_0, hx199_1, hx199_2, hx199_3, hx199_4, hl199_4, hi199_4⟩ := at_T115 HR191_0.out x3_2 p199 q199
                                    obtain rfl : ad192 = ad199 := (by injection e199)
                                    have HR199_4 := Aside0.mk hi199_4
                                    have HC199_4 := Aside0.mk hl199_4
                                    clear hi199_4 hl199_4
                                    replace p199 := eq_true p199
                                    replace q199 := eq_true q199
                                    go_wp2
                                    repeat (go_quiet (fail); try go_wp2)
                                    go_roundg kj12
                                    case measure => have := HJ1.out; have := HK2.out; have := HJ7.out; have := HJ12.out; omega
                                    case rel => exact ⟨(wrap64 (x3_2 + 1)), (by first | rfl | (simp; done) | (simp [*]; done)), H', ⟨by have := HJ1.out; have := HK2.out; have := HJ7.out; have := HJ12.out; omega⟩, by repeat (first | exact Drawn0.refl _ | apply Drawn0.step)⟩
                              · rw [if_neg c21] at H
                                exact absurd H (by simp)
                            · rw [if_neg c20] at H
                              exact absurd H (by simp)
              · rw [if_neg c7] at H
                exact absurd H (by simp)
            · rw [if_neg c6] at H
              have c6b0 : decide (x3_2 < (((rd_T62 [a0] 0).f0).length : Int)) = false := decide_eq_false c6
              clear c6
              have H' := Aside0.mk H
              clear H
              have p191 : 0 ≤ (0 : Int) := (by omega)
              have q191 : 0 < ([a0].length : Int) := (by simp)
              obtain ⟨ad191, A191_0, c191_0, A191_1, c191_1, e191, hx191_0, hx191_1, hl191_0, hi191_0, hl191_1, hi191_1⟩ := at_T62 HR0.out 0 p191 q191
              obtain rfl : adp0 = ad191 := (by injection e191)
              have qi191 : (0 < [a0].length) = True := eq_true (by omega)
              (try rw [show ((0 : Int)).toNat = 0 from rfl] at hx191_0)
              (try rw [show 0 * 2 = 0 from rfl] at hx191_0)
              (try rw [Addr.add_zero'] at hx191_0)
              (try rw [show ((0 : Int)).toNat = 0 from rfl] at hx191_1)
              (try rw [show 0 * 2 = 0 from rfl] at hx191_1)
              (try rw [Addr.add_zero'] at hx191_1)
              have HR191_0 := Aside0.mk hi191_0
              have HC191_0 := Aside0.mk hl191_0
              clear hi191_0 hl191_0
              have HR191_1 := Aside0.mk hi191_1
              have HC191_1 := Aside0.mk hl191_1
              clear hi191_1 hl191_1
              replace p191 := eq_true p191
              replace q191 := eq_true q191
              go_wp2
              repeat (go_quiet (fail); try go_wp2)
              go_loopg [6] k2 (fun kq v6 w' => ∃ (x6_3 : Int), v6 = .int .i64 x6_3 ∧ Aside0 (spec_l6Fault.l1 kq a0 x6_3 = some r) ∧ Aside0 (kq ≤ k2) ∧ Drawn0 w w')
              case atStart => exact ⟨(0), (by first | rfl | (simp; done) | (simp [*]; done)), H', ⟨Nat.le_refl _⟩, by repeat (first | exact Drawn0.refl _ | apply Drawn0.step)⟩
              case round =>
                clear H'
                try clear c1
                try clear p1
                try clear q1
                try clear hx1
                try clear qi1
                try clear c2
                try clear p2
                try clear c3
                try clear c3b0
                try clear c3b1
                try clear c4
                try clear c4b0
                try clear c4b1
                try clear c5
                try clear c6
                try clear c6b0
                try clear p6
                try clear c7
                try clear c7b0
                try clear c9
                try clear c10
                try clear c12
                try clear c14
                try clear c14b0
                try clear c15
                try clear c15b0
                try clear c17
                try clear c19
                try clear p19
                try clear q19
                try clear hx19
                try clear qi19
                try clear c20
                try clear c20b0
                try clear c21
                try clear c21b0
                try clear c22
                try clear c22b0
                try clear c22b1
                try clear c23
                try clear c23b0
                try clear c23b1
                try clear c25
                try clear c25b0
                try clear c25b1
                try clear hx190_0
                try clear hx190_1
                try clear hx191_0
                try clear hx191_1
                try clear hx192_0
                try clear hx192_1
                try clear hx192_2
                try clear hx192_3
                try clear hx192_4
                try clear hx193_0
                try clear hx193_1
                try clear hx193_2
                try clear hx193_3
                try clear hx193_4
                try clear hx196_0
                try clear hx196_1
                try clear hx196_2
                try clear hx196_3
                try clear hx196_4
                try clear hx199_0
                try clear hx199_1
                try clear hx199_2
                try clear hx199_3
                try clear hx199_4
                try clear p1
                try clear p190
                try clear p191
                try clear p192
                try clear p193
                try clear p196
                try clear p199
                try clear p2
                try clear q1
                try clear q190
                try clear q191
                try clear q192
                try clear q193
                try clear q196
                try clear q199
                obtain ⟨x6_3, rfl, HA, HK3, ⟨m3, rfl⟩⟩ := hrel
                cases gk with
                | zero => exact absurd HA.out (by simp [spec_l6Fault.l1])
                | succ k3 =>
                  have H := HA.out
                  clear HA
                  simp only [spec_l6Fault.l1] at H
                  by_cases c26 : x6_3 < (((rd_T62 [a0] 0).f1).length : Int)
                  · rw [if_pos c26] at H
                    have c26b0 : decide (x6_3 < (((rd_T62 [a0] 0).f1).length : Int)) = true := decide_eq_true c26
                    clear c26
                    by_cases c27 : 0 ≤ x6_3
                    · rw [if_pos c27] at H
                      have c27b0 : decide (0 ≤ x6_3) = true := decide_eq_true c27
                      clear c27
                      have HC28 := Aside0.mk H
                      clear H
                      have p201 : 0 ≤ (0 : Int) := (by omega)
                      have q201 : 0 < ([a0].length : Int) := (by simp)
                      obtain ⟨ad201, A201_0, c201_0, A201_1, c201_1, e201, hx201_0, hx201_1, hl201_0, hi201_0, hl201_1, hi201_1⟩ := at_T62 HR0.out 0 p201 q201
                      obtain rfl : adp0 = ad201 := (by injection e201)
                      have qi201 : (0 < [a0].length) = True := eq_true (by omega)
                      (try rw [show ((0 : Int)).toNat = 0 from rfl] at hx201_0)
                      (try rw [show 0 * 2 = 0 from rfl] at hx201_0)
                      (try rw [Addr.add_zero'] at hx201_0)
                      (try rw [show ((0 : Int)).toNat = 0 from rfl] at hx201_1)
                      (try rw [show 0 * 2 = 0 from rfl] at hx201_1)
                      (try rw [Addr.add_zero'] at hx201_1)
                      have HR201_0 := Aside0.mk hi201_0
                      have HC201_0 := Aside0.mk hl201_0
                      clear hi201_0 hl201_0
                      have HR201_1 := Aside0.mk hi201_1
                      have HC201_1 := Aside0.mk hl201_1
                      clear hi201_1 hl201_1
                      replace p201 := eq_true p201
                      replace q201 := eq_true q201
                      have p202 : 0 ≤ (x6_3 : Int) := of_decide_eq_true (by first | (with_reducible assumption) | assumption)
                      have q202 : x6_3 < (((rd_T62 [a0] 0).f1).length : Int) := of_decide_eq_true (by first | (with_reducible assumption) | assumption)
                      obtain ⟨ad202, A202_2, c202_2, e202, hx202_0, hx202_1, hx202_2, hl202_2, hi202_2⟩ := at_T119 HR201_1.out x6_3 p202 q202
                      cases e202
                      have HR202_2 := Aside0.mk hi202_2
                      have HC202_2 := Aside0.mk hl202_2
                      clear hi202_2 hl202_2
                      replace p202 := eq_true p202
                      replace q202 := eq_true q202
                      go_upto_region 21 with (fail)
                      repeat (go_quiet (fail); go_upto_region 21 with (fail))
                      go_cut [129] (fun v129 wc => ∃ (kq : Nat) (x129_27 : Bool), v129 = .bool x129_27 ∧ Aside0 (spec_l6Fault.j5 kq a0 x6_3 ((rd_T62 [a0] 0).f1) x129_27 = some r) ∧ Aside0 (kq ≤ k3) ∧ Drawn0 w wc)
                      case first =>
                        have H := HC28.out
                        clear HC28
                        replace H := Option.bind_eq_some_iff.mp H
                        obtain ⟨t204, A290, H⟩ := H
                        replace H : (if t204 = true then ((spec_l1In.f ((rd_T119 ((rd_T62 [a0] 0).f1) x6_3).f1) 0 (wrap64 ((((rd_T62 [a0] 0).f0).length : Int) - 1))).bind fun t205 => (spec_l6Fault.j5 k3 a0 x6_3 ((rd_T62 [a0] 0).f1) (!t205))) else (spec_l6Fault.j5 k3 a0 x6_3 ((rd_T62 [a0] 0).f1) true)) = some r := H
                        have A29 := Aside0.mk A290
                        clear A290
                        by_cases c30 : t204 = true
                        · subst c30
                          have H1 : ((spec_l1In.f ((rd_T119 ((rd_T62 [a0] 0).f1) x6_3).f1) 0 (wrap64 ((((rd_T62 [a0] 0).f0).length : Int) - 1))).bind fun t205 => (spec_l6Fault.j5 k3 a0 x6_3 ((rd_T62 [a0] 0).f1) (!t205))) = some r := by rw [if_pos rfl] at H; exact H
                          clear H
                          have H := H1
                          clear H1
                          replace H := Option.bind_eq_some_iff.mp H
                          obtain ⟨t205, A310, H⟩ := H
                          replace H : (spec_l6Fault.j5 k3 a0 x6_3 ((rd_T62 [a0] 0).f1) (!t205)) = some r := H
                          have A31 := Aside0.mk A310
                          clear A310
                          have H' := Aside0.mk H
                          clear H
                          have p203 : 0 ≤ (x6_3 : Int) := of_decide_eq_true (by first | (with_reducible assumption) | assumption)
                          have q203 : x6_3 < (((rd_T62 [a0] 0).f1).length : Int) := of_decide_eq_true (by first | (with_reducible assumption) | assumption)
                          obtain ⟨ad203, A203_2, c203_2, e203, hx203_0, hx203_1, hx203_2, hl203_2, hi203_2⟩ := at_T119 HR201_1.out x6_3 p203 q203
                          obtain rfl : ad202 = ad203 := (by injection e203)
                          have HR203_2 := Aside0.mk hi203_2
                          have HC203_2 := Aside0.mk hl203_2
                          clear hi203_2 hl203_2
                          replace p203 := eq_true p203
                          replace q203 := eq_true q203
                          go_wp2_with (first | (go_at_call 55; (with_reducible refine (spec_l1In.calls ((rd_T119 ((rd_T62 [a0] 0).f1) x6_3).f0) 0 (wrap64 ((((rd_T62 [a0] 0).f0).length : Int) - 1)) true _ A29.out).mono ?_); rintro e w' ⟨rfl, ⟨nd, rfl⟩⟩; (try first | exact ⟨rfl, _, World.drewN_drewN _ _ _⟩ | exact ⟨rfl, _, Eq.trans (World.drewN_drewN _ _ _) (congrArg (World.drewN _) (Nat.add_assoc _ _ _))⟩)) | (go_at_call 55; (with_reducible refine (spec_l1In.calls ((rd_T119 ((rd_T62 [a0] 0).f1) x6_3).f1) 0 (wrap64 ((((rd_T62 [a0] 0).f0).length : Int) - 1)) t205 _ A31.out).mono ?_); rintro e w' ⟨rfl, ⟨nd, rfl⟩⟩; (try first | exact ⟨rfl, _, World.drewN_drewN _ _ _⟩ | exact ⟨rfl, _, Eq.trans (World.drewN_drewN _ _ _) (congrArg (World.drewN _) (Nat.add_assoc _ _ _))⟩)) | go_quiet (first | (go_at_call 55; (with_reducible refine (spec_l1In.calls ((rd_T119 ((rd_T62 [a0] 0).f1) x6_3).f0) 0 (wrap64 ((((rd_T62 [a0] 0).f0).length : Int) - 1)) true _ A29.out).mono ?_); rintro e w' ⟨rfl, ⟨nd, rfl⟩⟩; (try first | exact ⟨rfl, _, World.drewN_drewN _ _ _⟩ | exact ⟨rfl, _, Eq.trans (World.drewN_drewN _ _ _) (congrArg (World.drewN _) (Nat.add_assoc _ _ _))⟩)) | (go_at_call 55; (with_reducible refine (spec_l1In.calls ((rd_T119 ((rd_T62 [a0] 0).f1) x6_3).f1) 0 (wrap64 ((((rd_T62 [a0] 0).f0).length : Int) - 1)) t205 _ A31.out).mono ?_); rintro e w' ⟨rfl, ⟨nd, rfl⟩⟩; (try first | exact ⟨rfl, _, World.drewN_drewN _ _ _⟩ | exact ⟨rfl, _, Eq.trans (World.drewN_drewN _ _ _) (congrArg (World.drewN _) (Nat.add_assoc _ _ _))⟩))))
                          go_meet
                          case rel => exact ⟨_, (!t205), (by first | rfl | (simp; done) | (simp [*]; done)), H', ⟨by have := HJ1.out; have := HK2.out; have := HK3.out; first | omega | exact Nat.le_refl _⟩, by repeat (first | exact Drawn0.refl _ | apply Drawn0.step)⟩
                        · replace c30 := Bool.eq_false_iff.mpr c30
                          subst c30
                          have H1 : (spec_l6Fault.j5 k3 a0 x6_3 ((rd_T62 [a0] 0).f1) true) = some r := by rw [if_neg (show ¬ (false = true) by decide)] at H; exact H
                          clear H
                          have H := H1
                          clear H1
                          have H' := Aside0.mk H
                          clear H
                          have p203 : 0 ≤ (x6_3 : Int) := of_decide_eq_true (by first | (with_reducible assumption) | assumption)
                          have q203 : x6_3 < (((rd_T62 [a0] 0).f1).length : Int) := of_decide_eq_true (by first | (with_reducible assumption) | assumption)
                          obtain ⟨ad203, A203_2, c203_2, e203, hx203_0, hx203_1, hx203_2, hl203_2, hi203_2⟩ := at_T119 HR201_1.out x6_3 p203 q203
                          obtain rfl : ad202 = ad203 := (by injection e203)
                          have HR203_2 := Aside0.mk hi203_2
                          have HC203_2 := Aside0.mk hl203_2
                          clear hi203_2 hl203_2
                          replace p203 := eq_true p203
                          replace q203 := eq_true q203
                          go_wp2_with (first | (go_at_call 55; (with_reducible refine (spec_l1In.calls ((rd_T119 ((rd_T62 [a0] 0).f1) x6_3).f0) 0 (wrap64 ((((rd_T62 [a0] 0).f0).length : Int) - 1)) false _ A29.out).mono ?_); rintro e w' ⟨rfl, ⟨nd, rfl⟩⟩; (try first | exact ⟨rfl, _, World.drewN_drewN _ _ _⟩ | exact ⟨rfl, _, Eq.trans (World.drewN_drewN _ _ _) (congrArg (World.drewN _) (Nat.add_assoc _ _ _))⟩)) | go_quiet (first | (go_at_call 55; (with_reducible refine (spec_l1In.calls ((rd_T119 ((rd_T62 [a0] 0).f1) x6_3).f0) 0 (wrap64 ((((rd_T62 [a0] 0).f0).length : Int) - 1)) false _ A29.out).mono ?_); rintro e w' ⟨rfl, ⟨nd, rfl⟩⟩; (try first | exact ⟨rfl, _, World.drewN_drewN _ _ _⟩ | exact ⟨rfl, _, Eq.trans (World.drewN_drewN _ _ _) (congrArg (World.drewN _) (Nat.add_assoc _ _ _))⟩))))
                          go_meet
                          case rel => exact ⟨_, (true), (by first | rfl | (simp; done) | (simp [*]; done)), H', ⟨by have := HJ1.out; have := HK2.out; have := HK3.out; first | omega | exact Nat.le_refl _⟩, by repeat (first | exact Drawn0.refl _ | apply Drawn0.step)⟩
                      case rest =>
                        clear HC28
                        try clear c1
                        try clear p1
                        try clear q1
                        try clear hx1
                        try clear qi1
                        try clear c2
                        try clear p2
                        try clear q2
                        try clear hx2
                        try clear qi2
                        try clear c3
                        try clear c3b0
                        try clear c3b1
                        try clear c4
                        try clear c4b0
                        try clear c4b1
                        try clear c5
                        try clear c6
                        try clear c6b0
                        try clear p6
                        try clear c7
                        try clear c7b0
                        try clear c9
                        try clear c10
                        try clear c12
                        try clear c14
                        try clear c14b0
                        try clear c15
                        try clear c15b0
                        try clear c17
                        try clear c19
                        try clear p19
                        try clear q19
                        try clear hx19
                        try clear qi19
                        try clear c20
                        try clear c20b0
                        try clear p20
                        try clear q20
                        try clear hx20
                        try clear qi20
                        try clear c21
                        try clear c21b0
                        try clear c22
                        try clear c22b0
                        try clear c22b1
                        try clear c23
                        try clear c23b0
                        try clear c23b1
                        try clear c25
                        try clear c25b0
                        try clear c25b1
                        try clear c26
                        try clear c26b0
                        try clear c27
                        try clear c27b0
                        try clear c30
                        try clear hx190_0
                        try clear hx190_1
                        try clear hx191_0
                        try clear hx191_1
                        try clear hx192_0
                        try clear hx192_1
                        try clear hx192_2
                        try clear hx192_3
                        try clear hx192_4
                        try clear hx193_0
                        try clear hx193_1
                        try clear hx193_2
                        try clear hx193_3
                        try clear hx193_4
                        try clear hx196_0
                        try clear hx196_1
                        try clear hx196_2
                        try clear hx196_3
                        try clear hx196_4
                        try clear hx199_0
                        try clear hx199_1
                        try clear hx199_2
                        try clear hx199_3
                        try clear hx199_4
                        try clear hx201_0
                        try clear hx201_1
                        try clear hx202_0
                        try clear hx202_1
                        try clear hx202_2
                        try clear hx203_0
                        try clear hx203_1
                        try clear hx203_2
                        try clear p1
                        try clear p19
                        try clear p190
                        try clear p191
                        try clear p192
                        try clear p193
                        try clear p196
                        try clear p199
                        try clear p2
                        try clear p201
                        try clear p202
                        try clear p203
                        try clear p6
                        try clear q1
                        try clear q19
                        try clear q190
                        try clear q191
                        try clear q192
                        try clear q193
                        try clear q196
                        try clear q199
                        try clear q201
                        try clear q202
                        try clear q203
                        obtain ⟨kq, x129_27, rfl, HA, HJ27, ⟨mc27, rfl⟩⟩ := hcut
                        cases kq with
                        | zero => exact absurd HA.out (by simp [spec_l6Fault.j5])
                        | succ kj27 =>
                          have H := HA.out
                          clear HA
                          simp only [spec_l6Fault.j5] at H
                          by_cases c32 : x129_27 = true
                          · subst c32
                            have H1 : (some 3) = some r := by rw [if_pos rfl] at H; exact H
                            clear H
                            have H := H1
                            clear H1
                            obtain rfl := Option.some.inj H
                            go_wp2
                            repeat (go_quiet (fail); try go_wp2)
                            go_ret
                            exact ⟨by first | rfl | (simp; done) | (simp [*]; done), by repeat (first | exact Drawn0.refl _ | apply Drawn0.step)⟩
                          · replace c32 := Bool.eq_false_iff.mpr c32
                            subst c32
                            have H1 : (if 0 ≤ x6_3 then (if x6_3 < (((rd_T62 [a0] 0).f1).length : Int) then (if (((rd_T119 ((rd_T62 [a0] 0).f1) x6_3).f2).length : Int) > 16 then (some 2) else (if x6_3 > 0 then (if 0 ≤ (wrap64 (x6_3 - 1)) then (if (wrap64 (x6_3 - 1)) < (((rd_T62 [a0] 0).f1).length : Int) then (if ((rd_T119 ((rd_T62 [a0] 0).f1) x6_3).f0) < ((rd_T119 ((rd_T62 [a0] 0).f1) (wrap64 (x6_3 - 1))).f0) then (some 1) else (spec_l6Fault.l1 kj27 a0 (wrap64 (x6_3 + 1)))) else (none)) else (none)) else (spec_l6Fault.l1 kj27 a0 (wrap64 (x6_3 + 1))))) else (none)) else (none)) = some r := by rw [if_neg (show ¬ (false = true) by decide)] at H; exact H
                            clear H
                            have H := H1
                            clear H1
                            by_cases c33 : 0 ≤ x6_3
                            · rw [if_pos c33] at H
                              have c33b0 : decide (0 ≤ x6_3) = true := decide_eq_true c33
                              clear c33
                              by_cases c34 : x6_3 < (((rd_T62 [a0] 0).f1).length : Int)
                              · rw [if_pos c34] at H
                                have c34b0 : decide (x6_3 < (((rd_T62 [a0] 0).f1).length : Int)) = true := decide_eq_true c34
                                clear c34
                                by_cases c35 : (((rd_T119 ((rd_T62 [a0] 0).f1) x6_3).f2).length : Int) > 16
                                · rw [if_pos c35] at H
                                  have c35b0 : decide (16 < (((rd_T119 ((rd_T62 [a0] 0).f1) x6_3).f2).length : Int)) = true := decide_eq_true c35
                                  have c35b1 : decide (16 < ((rd_T119 ((rd_T62 [a0] 0).f1) x6_3).f2).length) = true := decide_eq_true (by omega)
                                  clear c35
                                  obtain rfl := Option.some.inj H
                                  have p206 : 0 ≤ (x6_3 : Int) := of_decide_eq_true (by first | (with_reducible assumption) | assumption)
                                  have q206 : x6_3 < (((rd_T62 [a0] 0).f1).length : Int) := of_decide_eq_true (by first | (with_reducible assumption) | assumption)
                                  obtain ⟨ad206, A206_2, c206_2, e206, hx206_0, hx206_1, hx206_2, hl206_2, hi206_2⟩ := at_T119 HR201_1.out x6_3 p206 q206
                                  obtain rfl : ad202 = ad206 := (by injection e206)
                                  have HR206_2 := Aside0.mk hi206_2
                                  have HC206_2 := Aside0.mk hl206_2
                                  clear hi206_2 hl206_2
                                  replace p206 := eq_true p206
                                  replace q206 := eq_true q206
                                  go_wp2
                                  repeat (go_quiet (fail); try go_wp2)
                                  go_ret
                                  exact ⟨by first | rfl | (simp; done) | (simp [*]; done), by repeat (first | exact Drawn0.refl _ | apply Drawn0.step)⟩
                                · rw [if_neg c35] at H
                                  have c35b0 : decide (16 < (((rd_T119 ((rd_T62 [a0] 0).f1) x6_3).f2).length : Int)) = false := decide_eq_false c35
                                  have c35b1 : decide (16 < ((rd_T119 ((rd_T62 [a0] 0).f1) x6_3).f2).length) = false := decide_eq_false (by omega)
                                  clear c35
                                  by_cases c36 : x6_3 > 0
                                  · rw [if_pos c36] at H
                                    have c36b0 : decide (0 < x6_3) = true := decide_eq_true c36
                                    clear c36
                                    obtain ⟨ji37, hji37⟩ : ∃ j_ : Int, (wrap64 (x6_3 - 1)) = j_ := ⟨_, rfl⟩
                                    replace H : (if 0 ≤ (ji37) then (if (ji37) < (((rd_T62 [a0] 0).f1).length : Int) then (if ((rd_T119 ((rd_T62 [a0] 0).f1) x6_3).f0) < ((rd_T119 ((rd_T62 [a0] 0).f1) (ji37)).f0) then (some 1) else (spec_l6Fault.l1 kj27 a0 (wrap64 (x6_3 + 1)))) else (none)) else (none)) = some r := by first | (rw [hji37] at H; exact H) | (simp only [hji37] at H ⊢; exact H)
                                    have hji37w : (IntKind.i64.wrap (x6_3 - 1)) = ji37 := (i64_w _).trans hji37
                                    by_cases c38 : 0 ≤ (ji37)
                                    · rw [if_pos c38] at H
                                      have c38b0 : decide (0 ≤ (ji37)) = true := decide_eq_true c38
                                      clear c38
                                      by_cases c39 : (ji37) < (((rd_T62 [a0] 0).f1).length : Int)
                                      · rw [if_pos c39] at H
                                        have c39b0 : decide ((ji37) < (((rd_T62 [a0] 0).f1).length : Int)) = true := decide_eq_true c39
                                        clear c39
                                        by_cases c40 : ((rd_T119 ((rd_T62 [a0] 0).f1) x6_3).f0) < ((rd_T119 ((rd_T62 [a0] 0).f1) (ji37)).f0)
                                        · rw [if_pos c40] at H
                                          have c40b0 : decide (((rd_T119 ((rd_T62 [a0] 0).f1) x6_3).f0) < ((rd_T119 ((rd_T62 [a0] 0).f1) (ji37)).f0)) = true := decide_eq_true c40
                                          clear c40
                                          obtain rfl := Option.some.inj H
                                          have p206 : 0 ≤ (x6_3 : Int) := of_decide_eq_true (by first | (with_reducible assumption) | assumption)
                                          have q206 : x6_3 < (((rd_T62 [a0] 0).f1).length : Int) := of_decide_eq_true (by first | (with_reducible assumption) | assumption)
                                          obtain ⟨ad206, A206_2, c206_2, e206, hx206_0, hx206_1, hx206_2, hl206_2, hi206_2⟩ := at_T119 HR201_1.out x6_3 p206 q206
                                          obtain rfl : ad202 = ad206 := (by injection e206)
                                          have HR206_2 := Aside0.mk hi206_2
                                          have HC206_2 := Aside0.mk hl206_2
                                          clear hi206_2 hl206_2
                                          replace p206 := eq_true p206
                                          replace q206 := eq_true q206
                                          have p207 : 0 ≤ (0 : Int) := (by omega)
                                          have q207 : 0 < ([a0].length : Int) := (by simp)
                                          obtain ⟨ad207, A207_0, c207_0, A207_1, c207_1, e207, hx207_0, hx207_1, hl207_0, hi207_0, hl207_1, hi207_1⟩ := at_T62 HR0.out 0 p207 q207
                                          obtain rfl : adp0 = ad207 := (by injection e207)
                                          have qi207 : (0 < [a0].length) = True := eq_true (by omega)
                                          (try rw [show ((0 : Int)).toNat = 0 from rfl] at hx207_0)
                                          (try rw [show 0 * 2 = 0 from rfl] at hx207_0)
                                          (try rw [Addr.add_zero'] at hx207_0)
                                          (try rw [show ((0 : Int)).toNat = 0 from rfl] at hx207_1)
                                          (try rw [show 0 * 2 = 0 from rfl] at hx207_1)
                                          (try rw [Addr.add_zero'] at hx207_1)
                                          have HR207_0 := Aside0.mk hi207_0
                                          have HC207_0 := Aside0.mk hl207_0
                                          clear hi207_0 hl207_0
                                          have HR207_1 := Aside0.mk hi207_1
                                          have HC207_1 := Aside0.mk hl207_1
                                          clear hi207_1 hl207_1
                                          replace p207 := eq_true p207
                                          replace q207 := eq_true q207
                                          have p208 : 0 ≤ ((ji37) : Int) := of_decide_eq_true (by first | (with_reducible assumption) | assumption)
                                          have q208 : (ji37) < (((rd_T62 [a0] 0).f1).length : Int) := of_decide_eq_true (by first | (with_reducible assumption) | assumption)
                                          obtain ⟨ad208, A208_2, c208_2, e208, hx208_0, hx208_1, hx208_2, hl208_2, hi208_2⟩ := at_T119 HR207_1.out (ji37) p208 q208
                                          cases e208
                                          have HR208_2 := Aside0.mk hi208_2
                                          have HC208_2 := Aside0.mk hl208_2
                                          clear hi208_2 hl208_2
                                          replace p208 := eq_true p208
                                          replace q208 := eq_true q208
                                          go_wp2
                                          repeat (go_quiet (fail); try go_wp2)
                                          go_ret
                                          exact ⟨by first | rfl | (simp; done) | (simp only [← hji37] <;> (first | rfl | simp)) | (simp [*]; done), by repeat (first | exact Drawn0.refl _ | apply Drawn0.step)⟩
                                        · rw [if_neg c40] at H
                                          have c40b0 : decide (((rd_T119 ((rd_T62 [a0] 0).f1) x6_3).f0) < ((rd_T119 ((rd_T62 [a0] 0).f1) (ji37)).f0)) = false := decide_eq_false c40
                                          clear c40
                                          have H' := Aside0.mk H
                                          clear H
                                          have p206 : 0 ≤ (x6_3 : Int) := of_decide_eq_true (by first | (with_reducible assumption) | assumption)
                                          have q206 : x6_3 < (((rd_T62 [a0] 0).f1).length : Int) := of_decide_eq_true (by first | (with_reducible assumption) | assumption)
                                          obtain ⟨ad206, A206_2, c206_2, e206, hx206_0, hx206_1, hx206_2, hl206_2, hi206_2⟩ := at_T119 HR201_1.out x6_3 p206 q206
                                          obtain rfl : ad202 = ad206 := (by injection e206)
                                          have HR206_2 := Aside0.mk hi206_2
                                          have HC206_2 := Aside0.mk hl206_2
                                          clear hi206_2 hl206_2
                                          replace p206 := eq_true p206
                                          replace q206 := eq_true q206
                                          have p207 : 0 ≤ (0 : Int) := (by omega)
                                          have q207 : 0 < ([a0].length : Int) := (by simp)
                                          obtain ⟨ad207, A207_0, c207_0, A207_1, c207_1, e207, hx207_0, hx207_1, hl207_0, hi207_0, hl207_1, hi207_1⟩ := at_T62 HR0.out 0 p207 q207
                                          obtain rfl : adp0 = ad207 := (by injection e207)
                                          have qi207 : (0 < [a0].length) = True := eq_true (by omega)
                                          (try rw [show ((0 : Int)).toNat = 0 from rfl] at hx207_0)
                                          (try rw [show 0 * 2 = 0 from rfl] at hx207_0)
                                          (try rw [Addr.add_zero'] at hx207_0)
                                          (try rw [show ((0 : Int)).toNat = 0 from rfl] at hx207_1)
                                          (try rw [show 0 * 2 = 0 from rfl] at hx207_1)
                                          (try rw [Addr.add_zero'] at hx207_1)
                                          have HR207_0 := Aside0.mk hi207_0
                                          have HC207_0 := Aside0.mk hl207_0
                                          clear hi207_0 hl207_0
                                          have HR207_1 := Aside0.mk hi207_1
                                          have HC207_1 := Aside0.mk hl207_1
                                          clear hi207_1 hl207_1
                                          replace p207 := eq_true p207
                                          replace q207 := eq_true q207
                                          have p208 : 0 ≤ ((ji37) : Int) := of_decide_eq_true (by first | (with_reducible assumption) | assumption)
                                          have q208 : (ji37) < (((rd_T62 [a0] 0).f1).length : Int) := of_decide_eq_true (by first | (with_reducible assumption) | assumption)
                                          obtain ⟨ad208, A208_2, c208_2, e208, hx208_0, hx208_1, hx208_2, hl208_2, hi208_2⟩ := at_T119 HR207_1.out (ji37) p208 q208
                                          cases e208
                                          have HR208_2 := Aside0.mk hi208_2
                                          have HC208_2 := Aside0.mk hl208_2
                                          clear hi208_2 hl208_2
                                          replace p208 := eq_true p208
                                          replace q208 := eq_true q208
                                          go_wp2
                                          repeat (go_quiet (fail); try go_wp2)
                                          go_roundg kj27
                                          case measure => have := HJ1.out; have := HK2.out; have := HK3.out; have := HJ27.out; omega
                                          case rel => exact ⟨(wrap64 (x6_3 + 1)), (by first | rfl | (simp; done) | (simp [*]; done)), H', ⟨by have := HJ1.out; have := HK2.out; have := HK3.out; have := HJ27.out; omega⟩, by repeat (first | exact Drawn0.refl _ | apply Drawn0.step)⟩
                                      · rw [if_neg c39] at H
                                        exact absurd H (by simp)
                                    · rw [if_neg c38] at H
                                      exact absurd H (by simp)
                                  · rw [if_neg c36] at H
                                    have c36b0 : decide (0 < x6_3) = false := decide_eq_false c36
                                    clear c36
                                    have H' := Aside0.mk H
                                    clear H
                                    have p206 : 0 ≤ (x6_3 : Int) := of_decide_eq_true (by first | (with_reducible assumption) | assumption)
                                    have q206 : x6_3 < (((rd_T62 [a0] 0).f1).length : Int) := of_decide_eq_true (by first | (with_reducible assumption) | assumption)
                                    obtain ⟨ad206, A206_2, c206_2, e206, hx206_0, hx206_1, hx206_2, hl206_2, hi206_2⟩ := at_T119 HR201_1.out x6_3 p206 q206
                                    obtain rfl : ad202 = ad206 := (by injection e206)
                                    have HR206_2 := Aside0.mk hi206_2
                                    have HC206_2 := Aside0.mk hl206_2
                                    clear hi206_2 hl206_2
                                    replace p206 := eq_true p206
                                    replace q206 := eq_true q206
                                    go_wp2
                                    repeat (go_quiet (fail); try go_wp2)
                                    go_roundg kj27
                                    case measure => have := HJ1.out; have := HK2.out; have := HK3.out; have := HJ27.out; omega
                                    case rel => exact ⟨(wrap64 (x6_3 + 1)), (by first | rfl | (simp; done) | (simp [*]; done)), H', ⟨by have := HJ1.out; have := HK2.out; have := HK3.out; have := HJ27.out; omega⟩, by repeat (first | exact Drawn0.refl _ | apply Drawn0.step)⟩
                              · rw [if_neg c34] at H
                                exact absurd H (by simp)
                            · rw [if_neg c33] at H
                              exact absurd H (by simp)
                    · rw [if_neg c27] at H
                      exact absurd H (by simp)
                  · rw [if_neg c26] at H
                    have c26b0 : decide (x6_3 < (((rd_T62 [a0] 0).f1).length : Int)) = false := decide_eq_false c26
                    clear c26
                    obtain rfl := Option.some.inj H
                    have p201 : 0 ≤ (0 : Int) := (by omega)
                    have q201 : 0 < ([a0].length : Int) := (by simp)
                    obtain ⟨ad201, A201_0, c201_0, A201_1, c201_1, e201, hx201_0, hx201_1, hl201_0, hi201_0, hl201_1, hi201_1⟩ := at_T62 HR0.out 0 p201 q201
                    obtain rfl : adp0 = ad201 := (by injection e201)
                    have qi201 : (0 < [a0].length) = True := eq_true (by omega)
                    (try rw [show ((0 : Int)).toNat = 0 from rfl] at hx201_0)
                    (try rw [show 0 * 2 = 0 from rfl] at hx201_0)
                    (try rw [Addr.add_zero'] at hx201_0)
                    (try rw [show ((0 : Int)).toNat = 0 from rfl] at hx201_1)
                    (try rw [show 0 * 2 = 0 from rfl] at hx201_1)
                    (try rw [Addr.add_zero'] at hx201_1)
                    have HR201_0 := Aside0.mk hi201_0
                    have HC201_0 := Aside0.mk hl201_0
                    clear hi201_0 hl201_0
                    have HR201_1 := Aside0.mk hi201_1
                    have HC201_1 := Aside0.mk hl201_1
                    clear hi201_1 hl201_1
                    replace p201 := eq_true p201
                    replace q201 := eq_true q201
                    go_wp2
                    repeat (go_quiet (fail); try go_wp2)
                    go_ret
                    exact ⟨by first | rfl | (simp; done) | (simp [*]; done), by repeat (first | exact Drawn0.refl _ | apply Drawn0.step)⟩

/-! ### spec_GraphFault: function 47 -/
def spec_GraphFault.f (k : Nat) (l0_0 : List (S115)) (l0_1 : List (S119)) : Option (Int) := (spec_l6Fault.f k (⟨l0_0, l0_1⟩ : S62)).bind fun t210 => (some t210)
theorem spec_GraphFault.mono : ∀ a0 a1 k, LeO (spec_GraphFault.f k a0 a1) (spec_GraphFault.f (k + 1) a0 a1) := by
  intro a0 a1 k
  unfold spec_GraphFault.f
  repeat' first
      | (with_reducible exact spec_l6Fault.mono _ _)
      | (with_reducible exact LeO.refl _)
      | (with_reducible exact LeO.none _)
      | (with_reducible refine LeO.ite ?_ ?_)
      | (with_reducible refine LeO.bind ?_ (fun _ => ?_))
      | exact spec_l6Fault.mono _ _
      | exact LeO.none _
      | refine LeO.ite ?_ ?_
      | refine LeO.bind ?_ (fun _ => ?_)
set_option maxHeartbeats 8000000 in
set_option maxRecDepth 100000 in
theorem spec_GraphFault.calls (k : Nat) (A0_0 : Option Addr) (c0_0 : Nat) (l0_0 : List (S115)) (A0_1 : Option Addr) (c0_1 : Nat) (l0_1 : List (S119)) (r : Int) (w : World) (hr0_0 : Kd.C k115 w A0_0 l0_0.length l0_0) (hc0_0 : l0_0.length ≤ c0_0) (hr0_1 : Kd.C k119 w A0_1 l0_1.length l0_1) (hc0_1 : l0_1.length ≤ c0_1) (h : spec_GraphFault.f k l0_0 l0_1 = some r) :
    Calls Try.prog 47 #[.agg #[.slice A0_0 l0_0.length c0_0, .slice A0_1 l0_1.length c0_1]] w fun e w' => e = .returned (.int .i64 r) ∧ Below w.heap.size w w' := by
  have hu62 := Try.underlying62
  have HR0_0 := Aside0.mk hr0_0
  have HC0_0 := Aside0.mk hc0_0
  clear hr0_0 hc0_0
  have HR0_1 := Aside0.mk hr0_1
  have HC0_1 := Aside0.mk hc0_1
  clear hr0_1 hc0_1
  have HB := Aside0.mk (Below.refl w.heap.size w)
  have H : ((spec_l6Fault.f k (⟨l0_0, l0_1⟩ : S62)).bind fun t210 => (some t210)) = some r := h
  clear h
  replace H := Option.bind_eq_some_iff.mp H
  obtain ⟨t210, A20, H⟩ := H
  replace H : (some t210) = some r := H
  have A2 := Aside0.mk A20
  clear A20
  obtain rfl := Option.some.inj H
  go_enter Try.func47, Try.ntmps47
  go_wp2_with (first | ((with_reducible refine gate_dst (N := 1) rfl ?_); refine box_event ?hg (N := 1) ?hd (cs := #[.slice A0_0 l0_0.length c0_0, .slice A0_1 l0_1.length c0_1]) (t := 62) ?hr ?_; (case hd => rfl); (case hg => rfl); (case hr => first | (go_simp; done) | (go_simp; rfl)); intro gb209 hg w3 hbox hb; have n0_ := Aside0.mk (below_step (by repeat (first | (with_reducible first | exact HB.out | apply below_alloc | apply pw_below_drewN | apply below_drew1) | exact HB.out)) hb); have n1_ := Aside0.mk (hbox); have n2_ := Aside0.mk ((by rw [hg]; exact (below_size (by repeat (first | (with_reducible first | exact HB.out | apply below_alloc | apply pw_below_drewN | apply below_drew1) | exact HB.out))) : w.heap.size ≤ gb209)); have n3_ := Aside0.mk ((by rw [hg]; exact (below_size (by repeat (first | (with_reducible first | exact HB.out | apply below_alloc | apply pw_below_drewN | apply below_drew1) | exact HB.out))) : w.heap.size ≤ gb209)); clear HB; have HB := n0_; have BK209 := n1_; have GW209 := n2_; have GE209 := n3_; clear n0_ n1_ n2_ n3_; clear hb hbox hg) | ((with_reducible refine gate_callee (f := 95) rfl ?_); refine goesL_ (some 3) rfl rfl Try.func95 (by kernel_rfl) rfl #[.pointer (some ⟨gb209, 0, none⟩)] rfl (by (try simp only [List.map_toArray, List.map_cons, List.map_nil]); first | done | rfl | (simp only [List.length_drop, List.length_take]; rfl)) ?_; (with_reducible refine (spec_l6Fault.calls k _ (⟨l0_0, l0_1⟩ : S62) t210 _ ?side1 A2.out).mono ?_); (case side1 => exact C_block (by (with_reducible repeat (first | refine blk_drewN ?_ _ | refine blk_drew ?_ | refine blk_alloc ?_ _)); exact BK209.out) (k62_mk _ _ (by exact HC0_0.out) (by repeat (first | exact (Kd.C_below HR0_0.out HB.out) | (with_reducible refine Kd.C_alloc ?_ _) | (with_reducible refine Kd.C_drewN ?_ _) | (with_reducible refine Kd.C_drew ?_))) (by exact HC0_1.out) (by repeat (first | exact (Kd.C_below HR0_1.out HB.out) | (with_reducible refine Kd.C_alloc ?_ _) | (with_reducible refine Kd.C_drewN ?_ _) | (with_reducible refine Kd.C_drew ?_))))); rintro e w' ⟨rfl, ⟨nd, rfl⟩⟩; refine ⟨_, rfl, ?_⟩))
  go_ret
  exact ⟨by first | rfl | (simp [errW_none, errW_some] <;> rfl) | (simp [*, errW_none, errW_some] <;> rfl), by repeat (first | (with_reducible first | exact HB.out | apply below_alloc | apply pw_below_drewN | apply below_drew1 | refine below_set ?_ GE209.out) | exact HB.out)⟩

/-! ### impl_firstCode: function 52 -/
def impl_firstCode.l0 : Nat → List Int → Int → Int → Option (Int)
  | 0, _, _, _ => none
  | k + 1, x5, x6, x7 => if x7 < x6 then (if 0 ≤ x7 then (if x7 < (x5.length : Int) then (if (rd x5 x7) = 0 then (impl_firstCode.l0 k x5 x6 (wrap64 (x7 + 1))) else (some (rd x5 x7))) else (none)) else (none)) else (some 0)
def impl_firstCode.f (k : Nat) (l0 : List Int) : Option (Int) := impl_firstCode.l0 k l0 (l0.length : Int) 0
theorem impl_firstCode.mono_l : ∀ k, (∀ y0 y1 y2, LeO (impl_firstCode.l0 k y0 y1 y2) (impl_firstCode.l0 (k + 1) y0 y1 y2))
  | 0 => fun _ _ _ r h => by simp [impl_firstCode.l0] at h
  | k + 1 => by
    have ih0 := impl_firstCode.mono_l k
    · intro y0 y1 y2
      unfold impl_firstCode.l0
      repeat' first
      | (with_reducible exact ih0 _ _ _)
      | (with_reducible exact LeO.refl _)
      | (with_reducible exact LeO.none _)
      | (with_reducible refine LeO.ite ?_ ?_)
      | (with_reducible refine LeO.bind ?_ (fun _ => ?_))
      | exact ih0 _ _ _
      | exact LeO.none _
      | refine LeO.ite ?_ ?_
      | refine LeO.bind ?_ (fun _ => ?_)
theorem impl_firstCode.mono : ∀ a0 k, LeO (impl_firstCode.f k a0) (impl_firstCode.f (k + 1) a0) := by
  intro a0 k
  have ih0 := impl_firstCode.mono_l k
  unfold impl_firstCode.f
  repeat' first
      | (with_reducible exact ih0 _ _ _)
      | (with_reducible exact LeO.refl _)
      | (with_reducible exact LeO.none _)
      | (with_reducible refine LeO.ite ?_ ?_)
      | (with_reducible refine LeO.bind ?_ (fun _ => ?_))
      | exact ih0 _ _ _
      | exact LeO.none _
      | refine LeO.ite ?_ ?_
      | refine LeO.bind ?_ (fun _ => ?_)
set_option maxHeartbeats 8000000 in
set_option maxRecDepth 100000 in
theorem impl_firstCode.calls (k : Nat) (A0 : Option Addr) (c0 : Nat) (l0 : List Int) (r : Int) (w : World) (hr0 : Kd.C (Kd.int .i64) w A0 l0.length l0) (hc0 : l0.length ≤ c0) (h : impl_firstCode.f k l0 = some r) :
    Calls Try.prog 52 #[.slice A0 l0.length c0] w fun e w' => e = .returned (.int .i64 r) ∧ Drawn0 w w' := by
  have HR0 := Aside0.mk hr0
  have HC0 := Aside0.mk hc0
  clear hr0 hc0
  have H : (impl_firstCode.l0 k l0 (l0.length : Int) 0) = some r := h
  clear h
  have H' := Aside0.mk H
  clear H
  go_enter Try.func52, Try.ntmps52
  go_wp2
  go_loopg [7] k (fun kq v7 w' => ∃ (x7_1 : Int), v7 = .int .i64 x7_1 ∧ Aside0 (impl_firstCode.l0 kq l0 (l0.length : Int) x7_1 = some r) ∧ Aside0 (kq ≤ k) ∧ Drawn0 w w')
  case atStart => exact ⟨(0), (by first | rfl | (simp; done) | (simp [*]; done)), H', ⟨Nat.le_refl _⟩, by repeat (first | exact Drawn0.refl _ | apply Drawn0.step)⟩
  case round =>
    clear H'
    obtain ⟨x7_1, rfl, HA, HK1, ⟨m1, rfl⟩⟩ := hrel
    cases gk with
    | zero => exact absurd HA.out (by simp [impl_firstCode.l0])
    | succ k1 =>
      have H := HA.out
      clear HA
      simp only [impl_firstCode.l0] at H
      by_cases c2 : x7_1 < (l0.length : Int)
      · rw [if_pos c2] at H
        have c2b0 : decide (x7_1 < (l0.length : Int)) = true := decide_eq_true c2
        clear c2
        by_cases c3 : 0 ≤ x7_1
        · rw [if_pos c3] at H
          have c3b0 : decide (0 ≤ x7_1) = true := decide_eq_true c3
          clear c3
          by_cases c4 : x7_1 < (l0.length : Int)
          · rw [if_pos c4] at H
            have c4b0 : decide (x7_1 < (l0.length : Int)) = true := decide_eq_true c4
            clear c4
            by_cases c5 : (rd l0 x7_1) = 0
            · rw [if_pos c5] at H
              have c5b0 : ((rd l0 x7_1) == 0) = true := beq_iff_eq.mpr c5
              have c5b1 : ((rd l0 x7_1) != 0) = false := bne_eq_false_iff_eq.mpr c5
              clear c5
              have H' := Aside0.mk H
              clear H
              have p211 : 0 ≤ (x7_1 : Int) := of_decide_eq_true (by first | (with_reducible assumption) | assumption)
              have q211 : x7_1 < (l0.length : Int) := of_decide_eq_true (by first | (with_reducible assumption) | assumption)
              obtain ⟨ad211, e211, hx211_0⟩ := Kd.at_int HR0.out x7_1 p211 q211
              cases e211
              replace p211 := eq_true p211
              replace q211 := eq_true q211
              go_wp2
              go_roundg k1
              case measure => have := HK1.out; omega
              case rel => exact ⟨(wrap64 (x7_1 + 1)), (by first | rfl | (simp; done) | (simp [*]; done)), H', ⟨by have := HK1.out; omega⟩, by repeat (first | exact Drawn0.refl _ | apply Drawn0.step)⟩
            · rw [if_neg c5] at H
              have c5b0 : ((rd l0 x7_1) == 0) = false := beq_eq_false_iff_ne.mpr c5
              have c5b1 : ((rd l0 x7_1) != 0) = true := bne_iff_ne.mpr c5
              obtain rfl := Option.some.inj H
              have p211 : 0 ≤ (x7_1 : Int) := of_decide_eq_true (by first | (with_reducible assumption) | assumption)
              have q211 : x7_1 < (l0.length : Int) := of_decide_eq_true (by first | (with_reducible assumption) | assumption)
              obtain ⟨ad211, e211, hx211_0⟩ := Kd.at_int HR0.out x7_1 p211 q211
              cases e211
              replace p211 := eq_true p211
              replace q211 := eq_true q211
              go_wp2
              go_ret
              exact ⟨by first | rfl | (simp; done) | (simp [*]; done), by repeat (first | exact Drawn0.refl _ | apply Drawn0.step)⟩
          · rw [if_neg c4] at H
            exact absurd H (by simp)
        · rw [if_neg c3] at H
          exact absurd H (by simp)
      · rw [if_neg c2] at H
        have c2b0 : decide (x7_1 < (l0.length : Int)) = false := decide_eq_false c2
        clear c2
        obtain rfl := Option.some.inj H
        go_wp2
        go_ret
        exact ⟨by first | rfl | (simp; done) | (simp [*]; done), by repeat (first | exact Drawn0.refl _ | apply Drawn0.step)⟩

/-! ### impl_codeIf: function 53 -/
def impl_codeIf.f (a0 : Bool) (a1 : Int) : Option (Int) := if a0 = true then (some a1) else (some 0)
set_option maxHeartbeats 8000000 in
set_option maxRecDepth 100000 in
theorem impl_codeIf.calls (a0 : Bool) (a1 : Int) (r : Int) (w : World) (h : impl_codeIf.f a0 a1 = some r) :
    Calls Try.prog 53 #[.bool a0, .int .i64 a1] w fun e w' => e = .returned (.int .i64 r) ∧ Drawn0 w w' := by
  have H : (if a0 = true then (some a1) else (some 0)) = some r := h
  clear h
  by_cases c3 : a0 = true
  · subst c3
    have H1 : (some a1) = some r := by rw [if_pos rfl] at H; exact H
    clear H
    have H := H1
    clear H1
    obtain rfl := Option.some.inj H
    go_enter Try.func53, Try.ntmps53
    go_wp2
    go_ret
    exact ⟨by first | rfl | (simp; done) | (simp [*]; done), by repeat (first | exact Drawn0.refl _ | apply Drawn0.step)⟩
  · replace c3 := Bool.eq_false_iff.mpr c3
    subst c3
    have H1 : (some 0) = some r := by rw [if_neg (show ¬ (false = true) by decide)] at H; exact H
    clear H
    have H := H1
    clear H1
    obtain rfl := Option.some.inj H
    go_enter Try.func53, Try.ntmps53
    go_wp2
    go_ret
    exact ⟨by first | rfl | (simp; done) | (simp [*]; done), by repeat (first | exact Drawn0.refl _ | apply Drawn0.step)⟩

/-! ### impl_inRange: function 58 -/
def impl_inRange.f (a0 : Int) (a1 : Int) (a2 : Int) : Option (Bool) := if a1 ≤ a0 then (some (decide (a0 ≤ a2))) else (some false)
set_option maxHeartbeats 8000000 in
set_option maxRecDepth 100000 in
theorem impl_inRange.calls (a0 : Int) (a1 : Int) (a2 : Int) (r : Bool) (w : World) (h : impl_inRange.f a0 a1 a2 = some r) :
    Calls Try.prog 58 #[.int .i64 a0, .int .i64 a1, .int .i64 a2] w fun e w' => e = .returned (.bool r) ∧ Drawn0 w w' := by
  have H : (if a1 ≤ a0 then (some (decide (a0 ≤ a2))) else (some false)) = some r := h
  clear h
  by_cases c4 : a1 ≤ a0
  · rw [if_pos c4] at H
    have c4b0 : decide (a1 ≤ a0) = true := decide_eq_true c4
    clear c4
    obtain rfl := Option.some.inj H
    go_enter Try.func58, Try.ntmps58
    go_wp2
    go_ret
    exact ⟨by first | rfl | (simp; done) | (simp [*]; done), by repeat (first | exact Drawn0.refl _ | apply Drawn0.step)⟩
  · rw [if_neg c4] at H
    have c4b0 : decide (a1 ≤ a0) = false := decide_eq_false c4
    clear c4
    obtain rfl := Option.some.inj H
    go_enter Try.func58, Try.ntmps58
    go_wp2
    go_ret
    exact ⟨by first | rfl | (simp; done) | (simp [*]; done), by repeat (first | exact Drawn0.refl _ | apply Drawn0.step)⟩

/-! ### impl_isSmall: function 54 -/
def impl_isSmall.f (a0 : Int) : Option (Bool) := if a0 ≥ 97 then (some (decide (a0 ≤ 122))) else (some false)
set_option maxHeartbeats 8000000 in
set_option maxRecDepth 100000 in
theorem impl_isSmall.calls (a0 : Int) (r : Bool) (w : World) (h : impl_isSmall.f a0 = some r) :
    Calls Try.prog 54 #[.int .u8 a0] w fun e w' => e = .returned (.bool r) ∧ Drawn0 w w' := by
  have H : (if a0 ≥ 97 then (some (decide (a0 ≤ 122))) else (some false)) = some r := h
  clear h
  by_cases c2 : a0 ≥ 97
  · rw [if_pos c2] at H
    have c2b0 : decide (97 ≤ a0) = true := decide_eq_true c2
    clear c2
    obtain rfl := Option.some.inj H
    go_enter Try.func54, Try.ntmps54
    go_wp2
    go_ret
    exact ⟨by first | rfl | (simp; done) | (simp [*]; done), by repeat (first | exact Drawn0.refl _ | apply Drawn0.step)⟩
  · rw [if_neg c2] at H
    have c2b0 : decide (97 ≤ a0) = false := decide_eq_false c2
    clear c2
    obtain rfl := Option.some.inj H
    go_enter Try.func54, Try.ntmps54
    go_wp2
    go_ret
    exact ⟨by first | rfl | (simp; done) | (simp [*]; done), by repeat (first | exact Drawn0.refl _ | apply Drawn0.step)⟩

/-! ### impl_areAll__impl_isSmall: function 146 -/
def impl_areAll__impl_isSmall.l0 : Nat → ByteArray → Int → Int → Option (Bool)
  | 0, _, _, _ => none
  | k + 1, x0, x7, x8 => if x8 < x7 then (if 0 ≤ x8 then (if x8 < (x0.size : Int) then ((impl_isSmall.f (bt x0 x8)).bind fun t212 => (if t212 = true then (impl_areAll__impl_isSmall.l0 k x0 x7 (wrap64 (x8 + 1))) else (some false))) else (none)) else (none)) else (some true)
def impl_areAll__impl_isSmall.f (k : Nat) (a0 : ByteArray)  : Option (Bool) := impl_areAll__impl_isSmall.l0 k a0 (a0.size : Int) 0
theorem impl_areAll__impl_isSmall.mono_l : ∀ k, (∀ y0 y1 y2, LeO (impl_areAll__impl_isSmall.l0 k y0 y1 y2) (impl_areAll__impl_isSmall.l0 (k + 1) y0 y1 y2))
  | 0 => fun _ _ _ r h => by simp [impl_areAll__impl_isSmall.l0] at h
  | k + 1 => by
    have ih0 := impl_areAll__impl_isSmall.mono_l k
    · intro y0 y1 y2
      unfold impl_areAll__impl_isSmall.l0
      repeat' first
      | (with_reducible exact ih0 _ _ _)
      | (with_reducible exact LeO.refl _)
      | (with_reducible exact LeO.none _)
      | (with_reducible refine LeO.ite ?_ ?_)
      | (with_reducible refine LeO.bind ?_ (fun _ => ?_))
      | exact ih0 _ _ _
      | exact LeO.none _
      | refine LeO.ite ?_ ?_
      | refine LeO.bind ?_ (fun _ => ?_)
theorem impl_areAll__impl_isSmall.mono : ∀ a0 k, LeO (impl_areAll__impl_isSmall.f k a0) (impl_areAll__impl_isSmall.f (k + 1) a0) := by
  intro a0 k
  have ih0 := impl_areAll__impl_isSmall.mono_l k
  unfold impl_areAll__impl_isSmall.f
  repeat' first
      | (with_reducible exact ih0 _ _ _)
      | (with_reducible exact LeO.refl _)
      | (with_reducible exact LeO.none _)
      | (with_reducible refine LeO.ite ?_ ?_)
      | (with_reducible refine LeO.bind ?_ (fun _ => ?_))
      | exact ih0 _ _ _
      | exact LeO.none _
      | refine LeO.ite ?_ ?_
      | refine LeO.bind ?_ (fun _ => ?_)
set_option maxHeartbeats 8000000 in
set_option maxRecDepth 100000 in
theorem impl_areAll__impl_isSmall.calls (k : Nat) (a0 : ByteArray)  (r : Bool) (w : World) (h : impl_areAll__impl_isSmall.f k a0 = some r) :
    Calls Try.prog 49 #[.string a0, .func (.func 54) #[] #[]] w fun e w' => e = .returned (.bool r) ∧ Drawn0 w w' := by
  have H : (impl_areAll__impl_isSmall.l0 k a0 (a0.size : Int) 0) = some r := h
  clear h
  have H' := Aside0.mk H
  clear H
  go_enter Try.func49, Try.ntmps49
  go_wp2
  go_loopg [8] k (fun kq v8 w' => ∃ (x8_1 : Int), v8 = .int .i64 x8_1 ∧ Aside0 (impl_areAll__impl_isSmall.l0 kq a0 (a0.size : Int) x8_1 = some r) ∧ Aside0 (kq ≤ k) ∧ Drawn0 w w')
  case atStart => exact ⟨(0), (by first | rfl | (simp; done) | (simp [*]; done)), H', ⟨Nat.le_refl _⟩, by repeat (first | exact Drawn0.refl _ | apply Drawn0.step)⟩
  case round =>
    clear H'
    try clear p2
    obtain ⟨x8_1, rfl, HA, HK1, ⟨m1, rfl⟩⟩ := hrel
    cases gk with
    | zero => exact absurd HA.out (by simp [impl_areAll__impl_isSmall.l0])
    | succ k1 =>
      have H := HA.out
      clear HA
      simp only [impl_areAll__impl_isSmall.l0] at H
      by_cases c3 : x8_1 < (a0.size : Int)
      · rw [if_pos c3] at H
        have c3b0 : decide (x8_1 < (a0.size : Int)) = true := decide_eq_true c3
        clear c3
        by_cases c4 : 0 ≤ x8_1
        · rw [if_pos c4] at H
          have c4b0 : decide (0 ≤ x8_1) = true := decide_eq_true c4
          clear c4
          by_cases c5 : x8_1 < (a0.size : Int)
          · rw [if_pos c5] at H
            have c5b0 : decide (x8_1 < (a0.size : Int)) = true := decide_eq_true c5
            clear c5
            replace H := Option.bind_eq_some_iff.mp H
            obtain ⟨t212, A70, H⟩ := H
            replace H : (if t212 = true then (impl_areAll__impl_isSmall.l0 k1 a0 (a0.size : Int) (wrap64 (x8_1 + 1))) else (some false)) = some r := H
            have A7 := Aside0.mk A70
            clear A70
            by_cases c8 : t212 = true
            · subst c8
              have H1 : (impl_areAll__impl_isSmall.l0 k1 a0 (a0.size : Int) (wrap64 (x8_1 + 1))) = some r := by rw [if_pos rfl] at H; exact H
              clear H
              have H := H1
              clear H1
              have H' := Aside0.mk H
              clear H
              have p6 : 0 ≤ (x8_1 : Int) := of_decide_eq_true (by first | (with_reducible assumption) | assumption)
              have q6 : x8_1 < (a0.size : Int) := of_decide_eq_true (by first | (with_reducible assumption) | assumption)
              have hx6 := bt_at a0 x8_1
              replace p6 := eq_true p6
              replace q6 := eq_true q6
              go_wp2_with (first | ((with_reducible refine gate_dyn (t := 11) rfl ?_); refine goesV_ (some 15) rfl rfl Try.func54 (by kernel_rfl) rfl #[.int .u8 (bt a0 x8_1)] rfl (by (try simp only [List.map_toArray, List.map_cons, List.map_nil]); first | done | rfl | (simp only [List.length_drop, List.length_take]; rfl)) ?_; (with_reducible refine (impl_isSmall.calls (bt a0 x8_1) true _ A7.out).mono ?_); rintro e w' ⟨rfl, ⟨nd, rfl⟩⟩; refine ⟨_, rfl, ?_⟩))
              go_roundg k1
              case measure => have := HK1.out; omega
              case rel => exact ⟨(wrap64 (x8_1 + 1)), (by first | rfl | (simp; done) | (simp [*]; done)), H', ⟨by have := HK1.out; omega⟩, by repeat (first | exact Drawn0.refl _ | apply Drawn0.step)⟩
            · replace c8 := Bool.eq_false_iff.mpr c8
              subst c8
              have H1 : (some false) = some r := by rw [if_neg (show ¬ (false = true) by decide)] at H; exact H
              clear H
              have H := H1
              clear H1
              obtain rfl := Option.some.inj H
              have p6 : 0 ≤ (x8_1 : Int) := of_decide_eq_true (by first | (with_reducible assumption) | assumption)
              have q6 : x8_1 < (a0.size : Int) := of_decide_eq_true (by first | (with_reducible assumption) | assumption)
              have hx6 := bt_at a0 x8_1
              replace p6 := eq_true p6
              replace q6 := eq_true q6
              go_wp2_with (first | ((with_reducible refine gate_dyn (t := 11) rfl ?_); refine goesV_ (some 15) rfl rfl Try.func54 (by kernel_rfl) rfl #[.int .u8 (bt a0 x8_1)] rfl (by (try simp only [List.map_toArray, List.map_cons, List.map_nil]); first | done | rfl | (simp only [List.length_drop, List.length_take]; rfl)) ?_; (with_reducible refine (impl_isSmall.calls (bt a0 x8_1) false _ A7.out).mono ?_); rintro e w' ⟨rfl, ⟨nd, rfl⟩⟩; refine ⟨_, rfl, ?_⟩))
              go_ret
              exact ⟨by first | rfl | (simp; done) | (simp [*]; done), by repeat (first | exact Drawn0.refl _ | apply Drawn0.step)⟩
          · rw [if_neg c5] at H
            exact absurd H (by simp)
        · rw [if_neg c4] at H
          exact absurd H (by simp)
      · rw [if_neg c3] at H
        have c3b0 : decide (x8_1 < (a0.size : Int)) = false := decide_eq_false c3
        clear c3
        obtain rfl := Option.some.inj H
        go_wp2
        go_ret
        exact ⟨by first | rfl | (simp; done) | (simp [*]; done), by repeat (first | exact Drawn0.refl _ | apply Drawn0.step)⟩

end Go.Proofs.Ytjlcajhlggoleaa.H
