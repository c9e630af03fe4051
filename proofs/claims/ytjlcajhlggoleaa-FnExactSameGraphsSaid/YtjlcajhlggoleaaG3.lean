-- Written by a program of this session's own (xp.py) for this seat.
import Derived.Test.YtjlcajhlggoleaaG0
import Derived.Test.YtjlcajhlggoleaaG2
namespace Go.Proofs.Ytjlcajhlggoleaa.G
open Go.RowKit Go.Proofs.YtjlcajhlggoleaaW.PrintWords Go.Proofs.YtjlcajhlggoleaaW.PrintLast Go.Proofs.YtjlcajhlggoleaaW.PrintMore
attribute [local go_sem] Instr.field asAgg
attribute [local go_sem] max2_int min2_int max_two min_two max_three min_three max_four min_four   -- for this text's walks alone
set_option linter.unusedVariables false
set_option linter.unusedSimpArgs false

/-! ### spec_l6Same: function 81 -/
mutual
def spec_l6Same.j0 : Nat → S62 → S62 → Bool → Option (Bool)
  | 0, _, _, _ => none
  | k + 1, x0, x1, x34 => if x34 = true then (some false) else (spec_l6Same.l0 k x0 x1 0)
def spec_l6Same.l0 : Nat → S62 → S62 → Int → Option (Bool)
  | 0, _, _, _ => none
  | k + 1, x0, x1, x5 => if x5 < (((rd_T62 [x0] 0).f0).length : Int) then (if 0 ≤ x5 then (if x5 < (((rd_T62 [x1] 0).f0).length : Int) then (if ((rd_T115 ((rd_T62 [x0] 0).f0) x5).f0) = ((rd_T115 ((rd_T62 [x1] 0).f0) x5).f0) then (if ((rd_T115 ((rd_T62 [x0] 0).f0) x5).f1) = ((rd_T115 ((rd_T62 [x1] 0).f0) x5).f1) then (if ((rd_T115 ((rd_T62 [x0] 0).f0) x5).f2).toList = ((rd_T115 ((rd_T62 [x1] 0).f0) x5).f2).toList then (if ((rd_T115 ((rd_T62 [x0] 0).f0) x5).f3) = ((rd_T115 ((rd_T62 [x1] 0).f0) x5).f3) then ((spec_l4SameExpr.f k ((rd_T115 ((rd_T62 [x0] 0).f0) x5).f4) ((rd_T115 ((rd_T62 [x1] 0).f0) x5).f4)).bind fun t122 => (if t122 = true then (spec_l6Same.l0 k x0 x1 (wrap64 (x5 + 1))) else (some false))) else (some false)) else (some false)) else (some false)) else (some false)) else (none)) else (none)) else (spec_l6Same.l1 k x0 x1 0)
def spec_l6Same.l1 : Nat → S62 → S62 → Int → Option (Bool)
  | 0, _, _, _ => none
  | k + 1, x0, x1, x8 => if x8 < (((rd_T62 [x0] 0).f1).length : Int) then (if 0 ≤ x8 then (if x8 < (((rd_T62 [x1] 0).f1).length : Int) then (if ((rd_T119 ((rd_T62 [x0] 0).f1) x8).f0) = ((rd_T119 ((rd_T62 [x1] 0).f1) x8).f0) then (if ((rd_T119 ((rd_T62 [x0] 0).f1) x8).f1) = ((rd_T119 ((rd_T62 [x1] 0).f1) x8).f1) then ((spec_l4SameExpr.f k ((rd_T119 ((rd_T62 [x0] 0).f1) x8).f2) ((rd_T119 ((rd_T62 [x1] 0).f1) x8).f2)).bind fun t129 => (if t129 = true then (spec_l6Same.l1 k x0 x1 (wrap64 (x8 + 1))) else (some false))) else (some false)) else (some false)) else (none)) else (none)) else (some true)
end
def spec_l6Same.f (k : Nat) (a0 : S62) (a1 : S62) : Option (Bool) := if (((rd_T62 [a0] 0).f0).length : Int) = (((rd_T62 [a1] 0).f0).length : Int) then (spec_l6Same.j0 k a0 a1 ((((rd_T62 [a0] 0).f1).length : Int) != (((rd_T62 [a1] 0).f1).length : Int))) else (spec_l6Same.j0 k a0 a1 true)
theorem spec_l6Same.mono_l : ∀ k, (∀ y0 y1 y2, LeO (spec_l6Same.j0 k y0 y1 y2) (spec_l6Same.j0 (k + 1) y0 y1 y2)) ∧ (∀ y0 y1 y2, LeO (spec_l6Same.l0 k y0 y1 y2) (spec_l6Same.l0 (k + 1) y0 y1 y2)) ∧ (∀ y0 y1 y2, LeO (spec_l6Same.l1 k y0 y1 y2) (spec_l6Same.l1 (k + 1) y0 y1 y2))
  | 0 => ⟨fun _ _ _ r h => by simp [spec_l6Same.j0] at h, fun _ _ _ r h => by simp [spec_l6Same.l0] at h, fun _ _ _ r h => by simp [spec_l6Same.l1] at h⟩
  | k + 1 => by
    obtain ⟨ih0, ih1, ih2⟩ := spec_l6Same.mono_l k
    refine ⟨?_, ?_, ?_⟩
    · intro y0 y1 y2
      unfold spec_l6Same.j0
      repeat' first
      | (with_reducible exact ih0 _ _ _)
      | (with_reducible exact ih1 _ _ _)
      | (with_reducible exact ih2 _ _ _)
      | (with_reducible exact spec_l4SameExpr.mono _ _ _)
      | (with_reducible exact LeO.refl _)
      | (with_reducible exact LeO.none _)
      | (with_reducible refine LeO.ite ?_ ?_)
      | (with_reducible refine LeO.bind ?_ (fun _ => ?_))
      | exact ih0 _ _ _
      | exact ih1 _ _ _
      | exact ih2 _ _ _
      | exact spec_l4SameExpr.mono _ _ _
      | exact LeO.none _
      | refine LeO.ite ?_ ?_
      | refine LeO.bind ?_ (fun _ => ?_)
    · intro y0 y1 y2
      unfold spec_l6Same.l0
      repeat' first
      | (with_reducible exact ih0 _ _ _)
      | (with_reducible exact ih1 _ _ _)
      | (with_reducible exact ih2 _ _ _)
      | (with_reducible exact spec_l4SameExpr.mono _ _ _)
      | (with_reducible exact LeO.refl _)
      | (with_reducible exact LeO.none _)
      | (with_reducible refine LeO.ite ?_ ?_)
      | (with_reducible refine LeO.bind ?_ (fun _ => ?_))
      | exact ih0 _ _ _
      | exact ih1 _ _ _
      | exact ih2 _ _ _
      | exact spec_l4SameExpr.mono _ _ _
      | exact LeO.none _
      | refine LeO.ite ?_ ?_
      | refine LeO.bind ?_ (fun _ => ?_)
    · intro y0 y1 y2
      unfold spec_l6Same.l1
      repeat' first
      | (with_reducible exact ih0 _ _ _)
      | (with_reducible exact ih1 _ _ _)
      | (with_reducible exact ih2 _ _ _)
      | (with_reducible exact spec_l4SameExpr.mono _ _ _)
      | (with_reducible exact LeO.refl _)
      | (with_reducible exact LeO.none _)
      | (with_reducible refine LeO.ite ?_ ?_)
      | (with_reducible refine LeO.bind ?_ (fun _ => ?_))
      | exact ih0 _ _ _
      | exact ih1 _ _ _
      | exact ih2 _ _ _
      | exact spec_l4SameExpr.mono _ _ _
      | exact LeO.none _
      | refine LeO.ite ?_ ?_
      | refine LeO.bind ?_ (fun _ => ?_)
theorem spec_l6Same.mono : ∀ a0 a1 k, LeO (spec_l6Same.f k a0 a1) (spec_l6Same.f (k + 1) a0 a1) := by
  intro a0 a1 k
  obtain ⟨ih0, ih1, ih2⟩ := spec_l6Same.mono_l k
  unfold spec_l6Same.f
  repeat' first
      | (with_reducible exact ih0 _ _ _)
      | (with_reducible exact ih1 _ _ _)
      | (with_reducible exact ih2 _ _ _)
      | (with_reducible exact spec_l4SameExpr.mono _ _ _)
      | (with_reducible exact LeO.refl _)
      | (with_reducible exact LeO.none _)
      | (with_reducible refine LeO.ite ?_ ?_)
      | (with_reducible refine LeO.bind ?_ (fun _ => ?_))
      | exact ih0 _ _ _
      | exact ih1 _ _ _
      | exact ih2 _ _ _
      | exact spec_l4SameExpr.mono _ _ _
      | exact LeO.none _
      | refine LeO.ite ?_ ?_
      | refine LeO.bind ?_ (fun _ => ?_)
set_option maxHeartbeats 8000000 in
set_option maxRecDepth 100000 in
theorem spec_l6Same.calls (k : Nat) (adp0 : Addr) (a0 : S62) (adp1 : Addr) (a1 : S62) (r : Bool) (w : World) (hr0 : Kd.C k62 w (some adp0) 1 [a0]) (hr1 : Kd.C k62 w (some adp1) 1 [a1]) (h : spec_l6Same.f k a0 a1 = some r) :
    Calls Try.prog 81 #[.pointer (some adp0), .pointer (some adp1)] w fun e w' => e = .returned (.bool r) ∧ Drawn0 w w' := by
  have HR0 := Aside0.mk hr0
  clear hr0
  have HR1 := Aside0.mk hr1
  clear hr1
  have H : (if (((rd_T62 [a0] 0).f0).length : Int) = (((rd_T62 [a1] 0).f0).length : Int) then (spec_l6Same.j0 k a0 a1 ((((rd_T62 [a0] 0).f1).length : Int) != (((rd_T62 [a1] 0).f1).length : Int))) else (spec_l6Same.j0 k a0 a1 true)) = some r := h
  clear h
  have HC3 := Aside0.mk H
  clear H
  go_enter Try.func81, Try.ntmps81
  go_upto_region 1 with (fail)
  repeat (go_quiet (fail); go_upto_region 1 with (fail))
  go_cut [34] (fun v34 wc => ∃ (kq : Nat) (x34_2 : Bool), v34 = .bool x34_2 ∧ Aside0 (spec_l6Same.j0 kq a0 a1 x34_2 = some r) ∧ Aside0 (kq ≤ k) ∧ Drawn0 w wc)
  case first =>
    have H := HC3.out
    clear HC3
    by_cases c4 : (((rd_T62 [a0] 0).f0).length : Int) = (((rd_T62 [a1] 0).f0).length : Int)
    · rw [if_pos c4] at H
      have c4b0 : ((((rd_T62 [a0] 0).f0).length : Int) == (((rd_T62 [a1] 0).f0).length : Int)) = true := beq_iff_eq.mpr c4
      have c4b1 : ((((rd_T62 [a0] 0).f0).length : Int) != (((rd_T62 [a1] 0).f0).length : Int)) = false := bne_eq_false_iff_eq.mpr c4
      have c4b2 : (((rd_T62 [a0] 0).f0).length == ((rd_T62 [a1] 0).f0).length) = true := by first | simpa using c4 | (simp at c4 ⊢; omega)
      clear c4
      (first | rw [c4b0] | (simp only [i64_w, i32_w]; rw [c4b0]) | skip)
      have H' := Aside0.mk H
      clear H
      have p114 : 0 ≤ (0 : Int) := (by omega)
      have q114 : 0 < ([a0].length : Int) := (by simp)
      obtain ⟨ad114, A114_0, c114_0, A114_1, c114_1, e114, hx114_0, hx114_1, hl114_0, hi114_0, hl114_1, hi114_1⟩ := at_T62 HR0.out 0 p114 q114
      obtain rfl : adp0 = ad114 := (by injection e114)
      have qi114 : (0 < [a0].length) = True := eq_true (by omega)
      (try rw [show ((0 : Int)).toNat = 0 from rfl] at hx114_0)
      (try rw [show 0 * 2 = 0 from rfl] at hx114_0)
      (try rw [Addr.add_zero'] at hx114_0)
      (try rw [show ((0 : Int)).toNat = 0 from rfl] at hx114_1)
      (try rw [show 0 * 2 = 0 from rfl] at hx114_1)
      (try rw [Addr.add_zero'] at hx114_1)
      have HR114_0 := Aside0.mk hi114_0
      have HC114_0 := Aside0.mk hl114_0
      clear hi114_0 hl114_0
      have HR114_1 := Aside0.mk hi114_1
      have HC114_1 := Aside0.mk hl114_1
      clear hi114_1 hl114_1
      replace p114 := eq_true p114
      replace q114 := eq_true q114
      have p115 : 0 ≤ (0 : Int) := (by omega)
      have q115 : 0 < ([a1].length : Int) := (by simp)
      obtain ⟨ad115, A115_0, c115_0, A115_1, c115_1, e115, hx115_0, hx115_1, hl115_0, hi115_0, hl115_1, hi115_1⟩ := at_T62 HR1.out 0 p115 q115
      obtain rfl : adp1 = ad115 := (by injection e115)
      have qi115 : (0 < [a1].length) = True := eq_true (by omega)
      (try rw [show ((0 : Int)).toNat = 0 from rfl] at hx115_0)
      (try rw [show 0 * 2 = 0 from rfl] at hx115_0)
      (try rw [Addr.add_zero'] at hx115_0)
      (try rw [show ((0 : Int)).toNat = 0 from rfl] at hx115_1)
      (try rw [show 0 * 2 = 0 from rfl] at hx115_1)
      (try rw [Addr.add_zero'] at hx115_1)
      have HR115_0 := Aside0.mk hi115_0
      have HC115_0 := Aside0.mk hl115_0
      clear hi115_0 hl115_0
      have HR115_1 := Aside0.mk hi115_1
      have HC115_1 := Aside0.mk hl115_1
      clear hi115_1 hl115_1
      replace p115 := eq_true p115
      replace q115 := eq_true q115
      go_wp2
      repeat (go_quiet (fail); try go_wp2)
      go_meet
      case rel => exact ⟨_, (((((rd_T62 [a0] 0).f1).length : Int) != (((rd_T62 [a1] 0).f1).length : Int))), (by first | rfl | (simp; done) | (simp [*]; done)), H', ⟨by first | omega | exact Nat.le_refl _⟩, by repeat (first | exact Drawn0.refl _ | apply Drawn0.step)⟩
    · rw [if_neg c4] at H
      have c4b0 : ((((rd_T62 [a0] 0).f0).length : Int) == (((rd_T62 [a1] 0).f0).length : Int)) = false := beq_eq_false_iff_ne.mpr c4
      have c4b1 : ((((rd_T62 [a0] 0).f0).length : Int) != (((rd_T62 [a1] 0).f0).length : Int)) = true := bne_iff_ne.mpr c4
      have c4b2 : (((rd_T62 [a0] 0).f0).length == ((rd_T62 [a1] 0).f0).length) = false := by first | simpa using c4 | (simp at c4 ⊢; omega)
      (first | rw [c4b0] | (simp only [i64_w, i32_w]; rw [c4b0]) | skip)
      have H' := Aside0.mk H
      clear H
      have p114 : 0 ≤ (0 : Int) := (by omega)
      have q114 : 0 < ([a0].length : Int) := (by simp)
      obtain ⟨ad114, A114_0, c114_0, A114_1, c114_1, e114, hx114_0, hx114_1, hl114_0, hi114_0, hl114_1, hi114_1⟩ := at_T62 HR0.out 0 p114 q114
      obtain rfl : adp0 = ad114 := (by injection e114)
      have qi114 : (0 < [a0].length) = True := eq_true (by omega)
      (try rw [show ((0 : Int)).toNat = 0 from rfl] at hx114_0)
      (try rw [show 0 * 2 = 0 from rfl] at hx114_0)
      (try rw [Addr.add_zero'] at hx114_0)
      (try rw [show ((0 : Int)).toNat = 0 from rfl] at hx114_1)
      (try rw [show 0 * 2 = 0 from rfl] at hx114_1)
      (try rw [Addr.add_zero'] at hx114_1)
      have HR114_0 := Aside0.mk hi114_0
      have HC114_0 := Aside0.mk hl114_0
      clear hi114_0 hl114_0
      have HR114_1 := Aside0.mk hi114_1
      have HC114_1 := Aside0.mk hl114_1
      clear hi114_1 hl114_1
      replace p114 := eq_true p114
      replace q114 := eq_true q114
      have p115 : 0 ≤ (0 : Int) := (by omega)
      have q115 : 0 < ([a1].length : Int) := (by simp)
      obtain ⟨ad115, A115_0, c115_0, A115_1, c115_1, e115, hx115_0, hx115_1, hl115_0, hi115_0, hl115_1, hi115_1⟩ := at_T62 HR1.out 0 p115 q115
      obtain rfl : adp1 = ad115 := (by injection e115)
      have qi115 : (0 < [a1].length) = True := eq_true (by omega)
      (try rw [show ((0 : Int)).toNat = 0 from rfl] at hx115_0)
      (try rw [show 0 * 2 = 0 from rfl] at hx115_0)
      (try rw [Addr.add_zero'] at hx115_0)
      (try rw [show ((0 : Int)).toNat = 0 from rfl] at hx115_1)
      (try rw [show 0 * 2 = 0 from rfl] at hx115_1)
      (try rw [Addr.add_zero'] at hx115_1)
      have HR115_0 := Aside0.mk hi115_0
      have HC115_0 := Aside0.mk hl115_0
      clear hi115_0 hl115_0
      have HR115_1 := Aside0.mk hi115_1
      have HC115_1 := Aside0.mk hl115_1
      clear hi115_1 hl115_1
      replace p115 := eq_true p115
      replace q115 := eq_true q115
      go_wp2
      repeat (go_quiet (fail); try go_wp2)
      go_meet
      case rel => exact ⟨_, (true), (by first | rfl | (simp; done) | (simp [*]; done)), H', ⟨by first | omega | exact Nat.le_refl _⟩, by repeat (first | exact Drawn0.refl _ | apply Drawn0.step)⟩
  case rest =>
    clear HC3
    try clear c1
    try clear p1
    try clear q1
    try clear hx1
    try clear qi1
    try clear p2
    try clear c4
    try clear c4b0
    try clear c4b1
    try clear c4b2
    try clear hx114_0
    try clear hx114_1
    try clear hx115_0
    try clear hx115_1
    try clear p114
    try clear p115
    try clear q114
    try clear q115
    obtain ⟨kq, x34_2, rfl, HA, HJ2, ⟨mc2, rfl⟩⟩ := hcut
    cases kq with
    | zero => exact absurd HA.out (by simp [spec_l6Same.j0])
    | succ kj2 =>
      have H := HA.out
      clear HA
      simp only [spec_l6Same.j0] at H
      by_cases c5 : x34_2 = true
      · subst c5
        have H1 : (some false) = some r := by rw [if_pos rfl] at H; exact H
        clear H
        have H := H1
        clear H1
        obtain rfl := Option.some.inj H
        go_wp2
        repeat (go_quiet (fail); try go_wp2)
        go_ret
        exact ⟨by first | rfl | (simp; done) | (simp [*]; done), by repeat (first | exact Drawn0.refl _ | apply Drawn0.step)⟩
      · replace c5 := Bool.eq_false_iff.mpr c5
        subst c5
        have H1 : (spec_l6Same.l0 kj2 a0 a1 0) = some r := by rw [if_neg (show ¬ (false = true) by decide)] at H; exact H
        clear H
        have H := H1
        clear H1
        have H' := Aside0.mk H
        clear H
        go_wp2
        repeat (go_quiet (fail); try go_wp2)
        go_loopg [5] kj2 (fun kq v5 w' => ∃ (x5_2 : Int), v5 = .int .i64 x5_2 ∧ Aside0 (spec_l6Same.l0 kq a0 a1 x5_2 = some r) ∧ Aside0 (kq ≤ kj2) ∧ Drawn0 w w')
        case atStart => exact ⟨(0), (by first | rfl | (simp; done) | (simp [*]; done)), H', ⟨Nat.le_refl _⟩, by repeat (first | exact Drawn0.refl _ | apply Drawn0.step)⟩
        case round =>
          clear H'
          try clear c1
          try clear p1
          try clear q1
          try clear hx1
          try clear qi1
          try clear c2
          try clear p2
          try clear c4
          try clear c4b0
          try clear c4b1
          try clear c4b2
          try clear c5
          try clear hx114_0
          try clear hx114_1
          try clear hx115_0
          try clear hx115_1
          try clear p1
          try clear p114
          try clear p115
          try clear p2
          try clear q1
          try clear q114
          try clear q115
          obtain ⟨x5_2, rfl, HA, HK2, ⟨m2, rfl⟩⟩ := hrel
          cases gk with
          | zero => exact absurd HA.out (by simp [spec_l6Same.l0])
          | succ k2 =>
            have H := HA.out
            clear HA
            simp only [spec_l6Same.l0] at H
            by_cases c6 : x5_2 < (((rd_T62 [a0] 0).f0).length : Int)
            · rw [if_pos c6] at H
              have c6b0 : decide (x5_2 < (((rd_T62 [a0] 0).f0).length : Int)) = true := decide_eq_true c6
              clear c6
              by_cases c7 : 0 ≤ x5_2
              · rw [if_pos c7] at H
                have c7b0 : decide (0 ≤ x5_2) = true := decide_eq_true c7
                clear c7
                by_cases c8 : x5_2 < (((rd_T62 [a1] 0).f0).length : Int)
                · rw [if_pos c8] at H
                  have c8b0 : decide (x5_2 < (((rd_T62 [a1] 0).f0).length : Int)) = true := decide_eq_true c8
                  clear c8
                  by_cases c9 : ((rd_T115 ((rd_T62 [a0] 0).f0) x5_2).f0) = ((rd_T115 ((rd_T62 [a1] 0).f0) x5_2).f0)
                  · rw [if_pos c9] at H
                    have c9b0 : (((rd_T115 ((rd_T62 [a0] 0).f0) x5_2).f0) == ((rd_T115 ((rd_T62 [a1] 0).f0) x5_2).f0)) = true := beq_iff_eq.mpr c9
                    have c9b1 : (((rd_T115 ((rd_T62 [a0] 0).f0) x5_2).f0) != ((rd_T115 ((rd_T62 [a1] 0).f0) x5_2).f0)) = false := bne_eq_false_iff_eq.mpr c9
                    clear c9
                    by_cases c10 : ((rd_T115 ((rd_T62 [a0] 0).f0) x5_2).f1) = ((rd_T115 ((rd_T62 [a1] 0).f0) x5_2).f1)
                    · rw [if_pos c10] at H
                      have c10b0 : (((rd_T115 ((rd_T62 [a0] 0).f0) x5_2).f1) == ((rd_T115 ((rd_T62 [a1] 0).f0) x5_2).f1)) = true := beq_iff_eq.mpr c10
                      have c10b1 : (((rd_T115 ((rd_T62 [a0] 0).f0) x5_2).f1) != ((rd_T115 ((rd_T62 [a1] 0).f0) x5_2).f1)) = false := bne_eq_false_iff_eq.mpr c10
                      clear c10
                      by_cases c11 : ((rd_T115 ((rd_T62 [a0] 0).f0) x5_2).f2).toList = ((rd_T115 ((rd_T62 [a1] 0).f0) x5_2).f2).toList
                      · rw [if_pos c11] at H
                        have c11b0 : (((rd_T115 ((rd_T62 [a0] 0).f0) x5_2).f2).toList == ((rd_T115 ((rd_T62 [a1] 0).f0) x5_2).f2).toList) = true := beq_iff_eq.mpr c11
                        have c11b1 : (((rd_T115 ((rd_T62 [a0] 0).f0) x5_2).f2).toList != ((rd_T115 ((rd_T62 [a1] 0).f0) x5_2).f2).toList) = false := bne_eq_false_iff_eq.mpr c11
                        clear c11
                        by_cases c12 : ((rd_T115 ((rd_T62 [a0] 0).f0) x5_2).f3) = ((rd_T115 ((rd_T62 [a1] 0).f0) x5_2).f3)
                        · rw [if_pos c12] at H
                          have c12b0 : (((rd_T115 ((rd_T62 [a0] 0).f0) x5_2).f3) == ((rd_T115 ((rd_T62 [a1] 0).f0) x5_2).f3)) = true := beq_iff_eq.mpr c12
                          have c12b1 : (((rd_T115 ((rd_T62 [a0] 0).f0) x5_2).f3) != ((rd_T115 ((rd_T62 [a1] 0).f0) x5_2).f3)) = false := bne_eq_false_iff_eq.mpr c12
                          clear c12
                          replace H := Option.bind_eq_some_iff.mp H
                          obtain ⟨t122, A130, H⟩ := H
                          replace H : (if t122 = true then (spec_l6Same.l0 k2 a0 a1 (wrap64 (x5_2 + 1))) else (some false)) = some r := H
                          have A13 := Aside0.mk A130
                          clear A130
                          by_cases c14 : t122 = true
                          · subst c14
                            have H1 : (spec_l6Same.l0 k2 a0 a1 (wrap64 (x5_2 + 1))) = some r := by rw [if_pos rfl] at H; exact H
                            clear H
                            have H := H1
                            clear H1
                            have H' := Aside0.mk H
                            clear H
                            have p116 : 0 ≤ (0 : Int) := (by omega)
                            have q116 : 0 < ([a0].length : Int) := (by simp)
                            obtain ⟨ad116, A116_0, c116_0, A116_1, c116_1, e116, hx116_0, hx116_1, hl116_0, hi116_0, hl116_1, hi116_1⟩ := at_T62 HR0.out 0 p116 q116
                            obtain rfl : adp0 = ad116 := (by injection e116)
                            have qi116 : (0 < [a0].length) = True := eq_true (by omega)
                            (try rw [show ((0 : Int)).toNat = 0 from rfl] at hx116_0)
                            (try rw [show 0 * 2 = 0 from rfl] at hx116_0)
                            (try rw [Addr.add_zero'] at hx116_0)
                            (try rw [show ((0 : Int)).toNat = 0 from rfl] at hx116_1)
                            (try rw [show 0 * 2 = 0 from rfl] at hx116_1)
                            (try rw [Addr.add_zero'] at hx116_1)
                            have HR116_0 := Aside0.mk hi116_0
                            have HC116_0 := Aside0.mk hl116_0
                            clear hi116_0 hl116_0
                            have HR116_1 := Aside0.mk hi116_1
                            have HC116_1 := Aside0.mk hl116_1
                            clear hi116_1 hl116_1
                            replace p116 := eq_true p116
                            replace q116 := eq_true q116
                            have p117 : 0 ≤ (x5_2 : Int) := of_decide_eq_true (by first | (with_reducible assumption) | assumption)
                            have q117 : x5_2 < (((rd_T62 [a0] 0).f0).length : Int) := of_decide_eq_true (by first | (with_reducible assumption) | assumption)
                            obtain ⟨ad117, A117_4, c117_4, e117, hx117_0, hx117_1, hx117_2, hx117_3, hx117_4, hl117_4, hi117_4⟩ := at_T115 HR116_0.out x5_2 p117 q117
                            cases e117
                            have HR117_4 := Aside0.mk hi117_4
                            have HC117_4 := Aside0.mk hl117_4
                            clear hi117_4 hl117_4
                            replace p117 := eq_true p117
                            replace q117 := eq_true q117
                            have p118 : 0 ≤ (0 : Int) := (by omega)
                            have q118 : 0 < ([a1].length : Int) := (by simp)
                            obtain ⟨ad118, A118_0, c118_0, A118_1, c118_1, e118, hx118_0, hx118_1, hl118_0, hi118_0, hl118_1, hi118_1⟩ := at_T62 HR1.out 0 p118 q118
                            obtain rfl : adp1 = ad118 := (by injection e118)
                            have qi118 : (0 < [a1].length) = True := eq_true (by omega)
                            (try rw [show ((0 : Int)).toNat = 0 from rfl] at hx118_0)
                            (try rw [show 0 * 2 = 0 from rfl] at hx118_0)
                            (try rw [Addr.add_zero'] at hx118_0)
                            (try rw [show ((0 : Int)).toNat = 0 from rfl] at hx118_1)
                            (try rw [show 0 * 2 = 0 from rfl] at hx118_1)
                            (try rw [Addr.add_zero'] at hx118_1)
                            have HR118_0 := Aside0.mk hi118_0
                            have HC118_0 := Aside0.mk hl118_0
                            clear hi118_0 hl118_0
                            have HR118_1 := Aside0.mk hi118_1
                            have HC118_1 := Aside0.mk hl118_1
                            clear hi118_1 hl118_1
                            replace p118 := eq_true p118
                            replace q118 := eq_true q118
                            have p119 : 0 ≤ (x5_2 : Int) := of_decide_eq_true (by first | (with_reducible assumption) | assumption)
                            have q119 : x5_2 < (((rd_T62 [a1] 0).f0).length : Int) := of_decide_eq_true (by first | (with_reducible assumption) | assumption)
                            obtain ⟨ad119, A119_4, c119_4, e119, hx119_0, hx119_1, hx119_2, hx119_3, hx119_4, hl119_4, hi119_4⟩ := at_T115 HR118_0.out x5_2 p119 q119
                            cases e119
                            have HR119_4 := Aside0.mk hi119_4
                            have HC119_4 := Aside0.mk hl119_4
                            clear hi119_4 hl119_4
                            replace p119 := eq_true p119
                            replace q119 := eq_true q119
                            have p120 : 0 ≤ (x5_2 : Int) := of_decide_eq_true (by first | (with_reducible assumption) | assumption)
                            have q120 : x5_2 < (((rd_T62 [a0] 0).f0).length : Int) := of_decide_eq_true (by first | (with_reducible assumption) | assumption)
                            obtain ⟨ad120, A120_4, c120_4, e120, hx120_0, hx120_1, hx120_2, hx120_3, hx120_4, hl120_4, hi120_4⟩ := at_T115 HR116_0.out x5_2 p120 q120
                            obtain rfl : ad117 = ad120 := (by injection e120)
                            have HR120_4 := Aside0.mk hi120_4
                            have HC120_4 := Aside0.mk hl120_4
                            clear hi120_4 hl120_4
                            replace p120 := eq_true p120
                            replace q120 := eq_true q120
                            have ea_ := Option.some.inj (hx117_4.symm.trans hx120_4)
                            injection ea_ with ea_ en_ ec_
                            subst ea_
                            subst ec_
                            clear en_
                            have p121 : 0 ≤ (x5_2 : Int) := of_decide_eq_true (by first | (with_reducible assumption) | assumption)
                            have q121 : x5_2 < (((rd_T62 [a1] 0).f0).length : Int) := of_decide_eq_true (by first | (with_reducible assumption) | assumption)
                            obtain ⟨ad121, A121_4, c121_4, e121, hx121_0, hx121_1, hx121_2, hx121_3, hx121_4, hl121_4, hi121_4⟩ := at_T115 HR118_0.out x5_2 p121 q121
                            obtain rfl : ad119 = ad121 := (by injection e121)
                            have HR121_4 := Aside0.mk hi121_4
                            have HC121_4 := Aside0.mk hl121_4
                            clear hi121_4 hl121_4
                            replace p121 := eq_true p121
                            replace q121 := eq_true q121
                            have ea_ := Option.some.inj (hx119_4.symm.trans hx121_4)
                            injection ea_ with ea_ en_ ec_
                            subst ea_
                            subst ec_
                            clear en_
                            go_wp2_with (first | (go_at_call 71; (with_reducible refine (spec_l4SameExpr.calls k2 _ _ ((rd_T115 ((rd_T62 [a0] 0).f0) x5_2).f4) _ _ ((rd_T115 ((rd_T62 [a1] 0).f0) x5_2).f4) true _ ?side1 ?side2 ?side3 ?side4 A13.out).mono ?_); (case side1 => repeat (first | exact HR120_4.out | (with_reducible refine Kd.C_alloc ?_ _) | (with_reducible refine Kd.C_drewN ?_ _) | (with_reducible refine Kd.C_drew ?_))); (case side2 => exact HC120_4.out); (case side3 => repeat (first | exact HR121_4.out | (with_reducible refine Kd.C_alloc ?_ _) | (with_reducible refine Kd.C_drewN ?_ _) | (with_reducible refine Kd.C_drew ?_))); (case side4 => exact HC121_4.out); rintro e w' ⟨rfl, ⟨nd, rfl⟩⟩; (try first | exact ⟨rfl, _, World.drewN_drewN _ _ _⟩ | exact ⟨rfl, _, Eq.trans (World.drewN_drewN _ _ _) (congrArg (World.drewN _) (Nat.add_assoc _ _ _))⟩)) | go_quiet (first | (go_at_call 71; (with_reducible refine (spec_l4SameExpr.calls k2 _ _ ((rd_T115 ((rd_T62 [a0] 0).f0) x5_2).f4) _ _ ((rd_T115 ((rd_T62 [a1] 0).f0) x5_2).f4) true _ ?side1 ?side2 ?side3 ?side4 A13.out).mono ?_); (case side1 => repeat (first | exact HR120_4.out | (with_reducible refine Kd.C_alloc ?_ _) | (with_reducible refine Kd.C_drewN ?_ _) | (with_reducible refine Kd.C_drew ?_))); (case side2 => exact HC120_4.out); (case side3 => repeat (first | exact HR121_4.out | (with_reducible refine Kd.C_alloc ?_ _) | (with_reducible refine Kd.C_drewN ?_ _) | (with_reducible refine Kd.C_drew ?_))); (case side4 => exact HC121_4.out); rintro e w' ⟨rfl, ⟨nd, rfl⟩⟩; (try first | exact ⟨rfl, _, World.drewN_drewN _ _ _⟩ | exact ⟨rfl, _, Eq.trans (World.drewN_drewN _ _ _) (congrArg (World.drewN _) (Nat.add_assoc _ _ _))⟩))))
                            go_roundg k2
                            case measure => have := HJ2.out; have := HK2.out; omega
                            case rel => exact ⟨(wrap64 (x5_2 + 1)), (by first | rfl | (simp; done) | (simp [*]; done)), H', ⟨by have := HJ2.out; have := HK2.out; omega⟩, by repeat (first | exact Drawn0.refl _ | apply Drawn0.step)⟩
                          · replace c14 := Bool.eq_false_iff.mpr c14
                            subst c14
                            have H1 : (some false) = some r := by rw [if_neg (show ¬ (false = true) by decide)] at H; exact H
                            clear H
                            have H := H1
                            clear H1
                            obtain rfl := Option.some.inj H
                            have p116 : 0 ≤ (0 : Int) := (by omega)
                            have q116 : 0 < ([a0].length : Int) := (by simp)
                            obtain ⟨ad116, A116_0, c116_0, A116_1, c116_1, e116, hx116_0, hx116_1, hl116_0, hi116_0, hl116_1, hi116_1⟩ := at_T62 HR0.out 0 p116 q116
                            obtain rfl : adp0 = ad116 := (by injection e116)
                            have qi116 : (0 < [a0].length) = True := eq_true (by omega)
                            (try rw [show ((0 : Int)).toNat = 0 from rfl] at hx116_0)
                            (try rw [show 0 * 2 = 0 from rfl] at hx116_0)
                            (try rw [Addr.add_zero'] at hx116_0)
                            (try rw [show ((0 : Int)).toNat = 0 from rfl] at hx116_1)
                            (try rw [show 0 * 2 = 0 from rfl] at hx116_1)
                            (try rw [Addr.add_zero'] at hx116_1)
                            have HR116_0 := Aside0.mk hi116_0
                            have HC116_0 := Aside0.mk hl116_0
                            clear hi116_0 hl116_0
                            have HR116_1 := Aside0.mk hi116_1
                            have HC116_1 := Aside0.mk hl116_1
                            clear hi116_1 hl116_1
                            replace p116 := eq_true p116
                            replace q116 := eq_true q116
                            have p117 : 0 ≤ (x5_2 : Int) := of_decide_eq_true (by first | (with_reducible assumption) | assumption)
                            have q117 : x5_2 < (((rd_T62 [a0] 0).f0).length : Int) := of_decide_eq_true (by first | (with_reducible assumption) | assumption)
                            obtain ⟨ad117, A117_4, c117_4, e117, hx117_0, hx117_1, hx117_2, hx117_3, hx117_4, hl117_4, hi117_4⟩ := at_T115 HR116_0.out x5_2 p117 q117
                            cases e117
                            have HR117_4 := Aside0.mk hi117_4
                            have HC117_4 := Aside0.mk hl117_4
                            clear hi117_4 hl117_4
                            replace p117 := eq_true p117
                            replace q117 := eq_true q117
                            have p118 : 0 ≤ (0 : Int) := (by omega)
                            have q118 : 0 < ([a1].length : Int) := (by simp)
                            obtain ⟨ad118, A118_0, c118_0, A118_1, c118_1, e118, hx118_0, hx118_1, hl118_0, hi118_0, hl118_1, hi118_1⟩ := at_T62 HR1.out 0 p118 q118
                            obtain rfl : adp1 = ad118 := (by injection e118)
                            have qi118 : (0 < [a1].length) = True := eq_true (by omega)
                            (try rw [show ((0 : Int)).toNat = 0 from rfl] at hx118_0)
                            (try rw [show 0 * 2 = 0 from rfl] at hx118_0)
                            (try rw [Addr.add_zero'] at hx118_0)
                            (try rw [show ((0 : Int)).toNat = 0 from rfl] at hx118_1)
                            (try rw [show 0 * 2 = 0 from rfl] at hx118_1)
                            (try rw [Addr.add_zero'] at hx118_1)
                            have HR118_0 := Aside0.mk hi118_0
                            have HC118_0 := Aside0.mk hl118_0
                            clear hi118_0 hl118_0
                            have HR118_1 := Aside0.mk hi118_1
                            have HC118_1 := Aside0.mk hl118_1
                            clear hi118_1 hl118_1
                            replace p118 := eq_true p118
                            replace q118 := eq_true q118
                            have p119 : 0 ≤ (x5_2 : Int) := of_decide_eq_true (by first | (with_reducible assumption) | assumption)
                            have q119 : x5_2 < (((rd_T62 [a1] 0).f0).length : Int) := of_decide_eq_true (by first | (with_reducible assumption) | assumption)
                            obtain ⟨ad119, A119_4, c119_4, e119, hx119_0, hx119_1, hx119_2, hx119_3, hx119_4, hl119_4, hi119_4⟩ := at_T115 HR118_0.out x5_2 p119 q119
                            cases e119
                            have HR119_4 := Aside0.mk hi119_4
                            have HC119_4 := Aside0.mk hl119_4
                            clear hi119_4 hl119_4
                            replace p119 := eq_true p119
                            replace q119 := eq_true q119
                            have p120 : 0 ≤ (x5_2 : Int) := of_decide_eq_true (by first | (with_reducible assumption) | assumption)
                            have q120 : x5_2 < (((rd_T62 [a0] 0).f0).length : Int) := of_decide_eq_true (by first | (with_reducible assumption) | assumption)
                            obtain ⟨ad120, A120_4, c120_4, e120, hx120_0, hx120_1, hx120_2, hx120_3, hx120_4, hl120_4, hi120_4⟩ := at_T115 HR116_0.out x5_2 p120 q120
                            obtain rfl : ad117 = ad120 := (by injection e120)
                            have HR120_4 := Aside0.mk hi120_4
                            have HC120_4 := Aside0.mk hl120_4
                            clear hi120_4 hl120_4
                            replace p120 := eq_true p120
                            replace q120 := eq_true q120
                            have ea_ := Option.some.inj (hx117_4.symm.trans hx120_4)
                            injection ea_ with ea_ en_ ec_
                            subst ea_
                            subst ec_
                            clear en_
                            have p121 : 0 ≤ (x5_2 : Int) := of_decide_eq_true (by first | (with_reducible assumption) | assumption)
                            have q121 : x5_2 < (((rd_T62 [a1] 0).f0).length : Int) := of_decide_eq_true (by first | (with_reducible assumption) | assumption)
                            obtain ⟨ad121, A121_4, c121_4, e121, hx121_0, hx121_1, hx121_2, hx121_3, hx121_4, hl121_4, hi121_4⟩ := at_T115 HR118_0.out x5_2 p121 q121
                            obtain rfl : ad119 = ad121 := (by injection e121)
                            have HR121_4 := Aside0.mk hi121_4
                            have HC121_4 := Aside0.mk hl121_4
                            clear hi121_4 hl121_4
                            replace p121 := eq_true p121
                            replace q121 := eq_true q121
                            have ea_ := Option.some.inj (hx119_4.symm.trans hx121_4)
                            injection ea_ with ea_ en_ ec_
                            subst ea_
                            subst ec_
                            clear en_
                            go_wp2_with (first | (go_at_call 71; (with_reducible refine (spec_l4SameExpr.calls k2 _ _ ((rd_T115 ((rd_T62 [a0] 0).f0) x5_2).f4) _ _ ((rd_T115 ((rd_T62 [a1] 0).f0) x5_2).f4) false _ ?side1 ?side2 ?side3 ?side4 A13.out).mono ?_); (case side1 => repeat (first | exact HR120_4.out | (with_reducible refine Kd.C_alloc ?_ _) | (with_reducible refine Kd.C_drewN ?_ _) | (with_reducible refine Kd.C_drew ?_))); (case side2 => exact HC120_4.out); (case side3 => repeat (first | exact HR121_4.out | (with_reducible refine Kd.C_alloc ?_ _) | (with_reducible refine Kd.C_drewN ?_ _) | (with_reducible refine Kd.C_drew ?_))); (case side4 => exact HC121_4.out); rintro e w' ⟨rfl, ⟨nd, rfl⟩⟩; (try first | exact ⟨rfl, _, World.drewN_drewN _ _ _⟩ | exact ⟨rfl, _, Eq.trans (World.drewN_drewN _ _ _) (congrArg (World.drewN _) (Nat.add_assoc _ _ _))⟩)) | go_quiet (first | (go_at_call 71; (with_reducible refine (spec_l4SameExpr.calls k2 _ _ ((rd_T115 ((rd_T62 [a0] 0).f0) x5_2).f4) _ _ ((rd_T115 ((rd_T62 [a1] 0).f0) x5_2).f4) false _ ?side1 ?side2 ?side3 ?side4 A13.out).mono ?_); (case side1 => repeat (first | exact HR120_4.out | (with_reducible refine Kd.C_alloc ?_ _) | (with_reducible refine Kd.C_drewN ?_ _) | (with_reducible refine Kd.C_drew ?_))); (case side2 => exact HC120_4.out); (case side3 => repeat (first | exact HR121_4.out | (with_reducible refine Kd.C_alloc ?_ _) | (with_reducible refine Kd.C_drewN ?_ _) | (with_reducible refine Kd.C_drew ?_))); (case side4 => exact HC121_4.out); rintro e w' ⟨rfl, ⟨nd, rfl⟩⟩; (try first | exact ⟨rfl, _, World.drewN_drewN _ _ _⟩ | exact ⟨rfl, _, Eq.trans (World.drewN_drewN _ _ _) (congrArg (World.drewN _) (Nat.add_assoc _ _ _))⟩))))
                            go_ret
                            exact ⟨by first | rfl | (simp; done) | (simp [*]; done), by repeat (first | exact Drawn0.refl _ | apply Drawn0.step)⟩
                        · rw [if_neg c12] at H
                          have c12b0 : (((rd_T115 ((rd_T62 [a0] 0).f0) x5_2).f3) == ((rd_T115 ((rd_T62 [a1] 0).f0) x5_2).f3)) = false := beq_eq_false_iff_ne.mpr c12
                          have c12b1 : (((rd_T115 ((rd_T62 [a0] 0).f0) x5_2).f3) != ((rd_T115 ((rd_T62 [a1] 0).f0) x5_2).f3)) = true := bne_iff_ne.mpr c12
                          obtain rfl := Option.some.inj H
                          have p116 : 0 ≤ (0 : Int) := (by omega)
                          have q116 : 0 < ([a0].length : Int) := (by simp)
                          obtain ⟨ad116, A116_0, c116_0, A116_1, c116_1, e116, hx116_0, hx116_1, hl116_0, hi116_0, hl116_1, hi116_1⟩ := at_T62 HR0.out 0 p116 q116
                          obtain rfl : adp0 = ad116 := (by injection e116)
                          have qi116 : (0 < [a0].length) = True := eq_true (by omega)
                          (try rw [show ((0 : Int)).toNat = 0 from rfl] at hx116_0)
                          (try rw [show 0 * 2 = 0 from rfl] at hx116_0)
                          (try rw [Addr.add_zero'] at hx116_0)
                          (try rw [show ((0 : Int)).toNat = 0 from rfl] at hx116_1)
                          (try rw [show 0 * 2 = 0 from rfl] at hx116_1)
                          (try rw [Addr.add_zero'] at hx116_1)
                          have HR116_0 := Aside0.mk hi116_0
                          have HC116_0 := Aside0.mk hl116_0
                          clear hi116_0 hl116_0
                          have HR116_1 := Aside0.mk hi116_1
                          have HC116_1 := Aside0.mk hl116_1
                          clear hi116_1 hl116_1
                          replace p116 := eq_true p116
                          replace q116 := eq_true q116
                          have p117 : 0 ≤ (x5_2 : Int) := of_decide_eq_true (by first | (with_reducible assumption) | assumption)
                          have q117 : x5_2 < (((rd_T62 [a0] 0).f0).length : Int) := of_decide_eq_true (by first | (with_reducible assumption) | assumption)
                          obtain ⟨ad117, A117_4, c117_4, e117, hx117_0, hx117_1, hx117_2, hx117_3, hx117_4, hl117_4, hi117_4⟩ := at_T115 HR116_0.out x5_2 p117 q117
                          cases e117
                          have HR117_4 := Aside0.mk hi117_4
                          have HC117_4 := Aside0.mk hl117_4
                          clear hi117_4 hl117_4
                          replace p117 := eq_true p117
                          replace q117 := eq_true q117
                          have p118 : 0 ≤ (0 : Int) := (by omega)
                          have q118 : 0 < ([a1].length : Int) := (by simp)
                          obtain ⟨ad118, A118_0, c118_0, A118_1, c118_1, e118, hx118_0, hx118_1, hl118_0, hi118_0, hl118_1, hi118_1⟩ := at_T62 HR1.out 0 p118 q118
                          obtain rfl : adp1 = ad118 := (by injection e118)
                          have qi118 : (0 < [a1].length) = True := eq_true (by omega)
                          (try rw [show ((0 : Int)).toNat = 0 from rfl] at hx118_0)
                          (try rw [show 0 * 2 = 0 from rfl] at hx118_0)
                          (try rw [Addr.add_zero'] at hx118_0)
                          (try rw [show ((0 : Int)).toNat = 0 from rfl] at hx118_1)
                          (try rw [show 0 * 2 = 0 from rfl] at hx118_1)
                          (try rw [Addr.add_zero'] at hx118_1)
                          have HR118_0 := Aside0.mk hi118_0
                          have HC118_0 := Aside0.mk hl118_0
                          clear hi118_0 hl118_0
                          have HR118_1 := Aside0.mk hi118_1
                          have HC118_1 := Aside0.mk hl118_1
                          clear hi118_1 hl118_1
                          replace p118 := eq_true p118
                          replace q118 := eq_true q118
                          have p119 : 0 ≤ (x5_2 : Int) := of_decide_eq_true (by first | (with_reducible assumption) | assumption)
                          have q119 : x5_2 < (((rd_T62 [a1] 0).f0).length : Int) := of_decide_eq_true (by first | (with_reducible assumption) | assumption)
                          obtain ⟨ad119, A119_4, c119_4, e119, hx119_0, hx119_1, hx119_2, hx119_3, hx119_4, hl119_4, hi119_4⟩ := at_T115 HR118_0.out x5_2 p119 q119
                          cases e119
                          have HR119_4 := Aside0.mk hi119_4
                          have HC119_4 := Aside0.mk hl119_4
                          clear hi119_4 hl119_4
                          replace p119 := eq_true p119
                          replace q119 := eq_true q119
                          have p120 : 0 ≤ (x5_2 : Int) := of_decide_eq_true (by first | (with_reducible assumption) | assumption)
                          have q120 : x5_2 < (((rd_T62 [a0] 0).f0).length : Int) := of_decide_eq_true (by first | (with_reducible assumption) | assumption)
                          obtain ⟨ad120, A120_4, c120_4, e120, hx120_0, hx120_1, hx120_2, hx120_3, hx120_4, hl120_4, hi120_4⟩ := at_T115 HR116_0.out x5_2 p120 q120
                          obtain rfl : ad117 = ad120 := (by injection e120)
                          have HR120_4 := Aside0.mk hi120_4
                          have HC120_4 := Aside0.mk hl120_4
                          clear hi120_4 hl120_4
                          replace p120 := eq_true p120
                          replace q120 := eq_true q120
                          have ea_ := Option.some.inj (hx117_4.symm.trans hx120_4)
                          injection ea_ with ea_ en_ ec_
                          subst ea_
                          subst ec_
                          clear en_
                          have p121 : 0 ≤ (x5_2 : Int) := of_decide_eq_true (by first | (with_reducible assumption) | assumption)
                          have q121 : x5_2 < (((rd_T62 [a1] 0).f0).length : Int) := of_decide_eq_true (by first | (with_reducible assumption) | assumption)
                          obtain ⟨ad121, A121_4, c121_4, e121, hx121_0, hx121_1, hx121_2, hx121_3, hx121_4, hl121_4, hi121_4⟩ := at_T115 HR118_0.out x5_2 p121 q121
                          obtain rfl : ad119 = ad121 := (by injection e121)
                          have HR121_4 := Aside0.mk hi121_4
                          have HC121_4 := Aside0.mk hl121_4
                          clear hi121_4 hl121_4
                          replace p121 := eq_true p121
                          replace q121 := eq_true q121
                          have ea_ := Option.some.inj (hx119_4.symm.trans hx121_4)
                          injection ea_ with ea_ en_ ec_
                          subst ea_
                          subst ec_
                          clear en_
                          go_wp2
                          repeat (go_quiet (fail); try go_wp2)
                          go_ret
                          exact ⟨by first | rfl | (simp; done) | (simp [*]; done), by repeat (first | exact Drawn0.refl _ | apply Drawn0.step)⟩
                      · rw [if_neg c11] at H
                        have c11b0 : (((rd_T115 ((rd_T62 [a0] 0).f0) x5_2).f2).toList == ((rd_T115 ((rd_T62 [a1] 0).f0) x5_2).f2).toList) = false := beq_eq_false_iff_ne.mpr c11
                        have c11b1 : (((rd_T115 ((rd_T62 [a0] 0).f0) x5_2).f2).toList != ((rd_T115 ((rd_T62 [a1] 0).f0) x5_2).f2).toList) = true := bne_iff_ne.mpr c11
                        obtain rfl := Option.some.inj H
                        have p116 : 0 ≤ (0 : Int) := (by omega)
                        have q116 : 0 < ([a0].length : Int) := (by simp)
                        obtain ⟨ad116, A116_0, c116_0, A116_1, c116_1, e116, hx116_0, hx116_1, hl116_0, hi116_0, hl116_1, hi116_1⟩ := at_T62 HR0.out 0 p116 q116
                        obtain rfl : adp0 = ad116 := (by injection e116)
                        have qi116 : (0 < [a0].length) = True := eq_true (by omega)
                        (try rw [show ((0 : Int)).toNat = 0 from rfl] at hx116_0)
                        (try rw [show 0 * 2 = 0 from rfl] at hx116_0)
                        (try rw [Addr.add_zero'] at hx116_0)
                        (try rw [show ((0 : Int)).toNat = 0 from rfl] at hx116_1)
                        (try rw [show 0 * 2 = 0 from rfl] at hx116_1)
                        (try rw [Addr.add_zero'] at hx116_1)
                        have HR116_0 := Aside0.mk hi116_0
                        have HC116_0 := Aside0.mk hl116_0
                        clear hi116_0 hl116_0
                        have HR116_1 := Aside0.mk hi116_1
                        have HC116_1 := Aside0.mk hl116_1
                        clear hi116_1 hl116_1
                        replace p116 := eq_true p116
                        replace q116 := eq_true q116
                        have p117 : 0 ≤ (x5_2 : Int) := of_decide_eq_true (by first | (with_reducible assumption) | assumption)
                        have q117 : x5_2 < (((rd_T62 [a0] 0).f0).length : Int) := of_decide_eq_true (by first | (with_reducible assumption) | assumption)
                        obtain ⟨ad117, A117_4, c117_4, e117, hx117_0, hx117_1, hx117_2, hx117_3, hx117_4, hl117_4, hi117_4⟩ := at_T115 HR116_0.out x5_2 p117 q117
                        cases e117
                        have HR117_4 := Aside0.mk hi117_4
                        have HC117_4 := Aside0.mk hl117_4
                        clear hi117_4 hl117_4
                        replace p117 := eq_true p117
                        replace q117 := eq_true q117
                        have p118 : 0 ≤ (0 : Int) := (by omega)
                        have q118 : 0 < ([a1].length : Int) := (by simp)
                        obtain ⟨ad118, A118_0, c118_0, A118_1, c118_1, e118, hx118_0, hx118_1, hl118_0, hi118_0, hl118_1, hi118_1⟩ := at_T62 HR1.out 0 p118 q118
                        obtain rfl : adp1 = ad118 := (by injection e118)
                        have qi118 : (0 < [a1].length) = True := eq_true (by omega)
                        (try rw [show ((0 : Int)).toNat = 0 from rfl] at hx118_0)
                        (try rw [show 0 * 2 = 0 from rfl] at hx118_0)
                        (try rw [Addr.add_zero'] at hx118_0)
                        (try rw [show ((0 : Int)).toNat = 0 from rfl] at hx118_1)
                        (try rw [show 0 * 2 = 0 from rfl] at hx118_1)
                        (try rw [Addr.add_zero'] at hx118_1)
                        have HR118_0 := Aside0.mk hi118_0
                        have HC118_0 := Aside0.mk hl118_0
                        clear hi118_0 hl118_0
                        have HR118_1 := Aside0.mk hi118_1
                        have HC118_1 := Aside0.mk hl118_1
                        clear hi118_1 hl118_1
                        replace p118 := eq_true p118
                        replace q118 := eq_true q118
                        have p119 : 0 ≤ (x5_2 : Int) := of_decide_eq_true (by first | (with_reducible assumption) | assumption)
                        have q119 : x5_2 < (((rd_T62 [a1] 0).f0).length : Int) := of_decide_eq_true (by first | (with_reducible assumption) | assumption)
                        obtain ⟨ad119, A119_4, c119_4, e119, hx119_0, hx119_1, hx119_2, hx119_3, hx119_4, hl119_4, hi119_4⟩ := at_T115 HR118_0.out x5_2 p119 q119
                        cases e119
                        have HR119_4 := Aside0.mk hi119_4
                        have HC119_4 := Aside0.mk hl119_4
                        clear hi119_4 hl119_4
                        replace p119 := eq_true p119
                        replace q119 := eq_true q119
                        have p120 : 0 ≤ (x5_2 : Int) := of_decide_eq_true (by first | (with_reducible assumption) | assumption)
                        have q120 : x5_2 < (((rd_T62 [a0] 0).f0).length : Int) := of_decide_eq_true (by first | (with_reducible assumption) | assumption)
                        obtain ⟨ad120, A120_4, c120_4, e120, hx120_0, hx120_1, hx120_2, hx120_3, hx120_4, hl120_4, hi120_4⟩ := at_T115 HR116_0.out x5_2 p120 q120
                        obtain rfl : ad117 = ad120 := (by injection e120)
                        have HR120_4 := Aside0.mk hi120_4
                        have HC120_4 := Aside0.mk hl120_4
                        clear hi120_4 hl120_4
                        replace p120 := eq_true p120
                        replace q120 := eq_true q120
                        have ea_ := Option.some.inj (hx117_4.symm.trans hx120_4)
                        injection ea_ with ea_ en_ ec_
                        subst ea_
                        subst ec_
                        clear en_
                        have p121 : 0 ≤ (x5_2 : Int) := of_decide_eq_true (by first | (with_reducible assumption) | assumption)
                        have q121 : x5_2 < (((rd_T62 [a1] 0).f0).length : Int) := of_decide_eq_true (by first | (with_reducible assumption) | assumption)
                        obtain ⟨ad121, A121_4, c121_4, e121, hx121_0, hx121_1, hx121_2, hx121_3, hx121_4, hl121_4, hi121_4⟩ := at_T115 HR118_0.out x5_2 p121 q121
                        obtain rfl : ad119 = ad121 := (by injection e121)
                        have HR121_4 := Aside0.mk hi121_4
                        have HC121_4 := Aside0.mk hl121_4
                        clear hi121_4 hl121_4
                        replace p121 := eq_true p121
                        replace q121 := eq_true q121
                        have ea_ := Option.some.inj (hx119_4.symm.trans hx121_4)
                        injection ea_ with ea_ en_ ec_
                        subst ea_
                        subst ec_
                        clear en_
                        go_wp2
                        repeat (go_quiet (fail); try go_wp2)
                        go_ret
                        exact ⟨by first | rfl | (simp; done) | (simp [*]; done), by repeat (first | exact Drawn0.refl _ | apply Drawn0.step)⟩
                    · rw [if_neg c10] at H
                      have c10b0 : (((rd_T115 ((rd_T62 [a0] 0).f0) x5_2).f1) == ((rd_T115 ((rd_T62 [a1] 0).f0) x5_2).f1)) = false := beq_eq_false_iff_ne.mpr c10
                      have c10b1 : (((rd_T115 ((rd_T62 [a0] 0).f0) x5_2).f1) != ((rd_T115 ((rd_T62 [a1] 0).f0) x5_2).f1)) = true := bne_iff_ne.mpr c10
                      obtain rfl := Option.some.inj H
                      have p116 : 0 ≤ (0 : Int) := (by omega)
                      have q116 : 0 < ([a0].length : Int) := (by simp)
                      obtain ⟨ad116, A116_0, c116_0, A116_1, c116_1, e116, hx116_0, hx116_1, hl116_0, hi116_0, hl116_1, hi116_1⟩ := at_T62 HR0.out 0 p116 q116
                      obtain rfl : adp0 = ad116 := (by injection e116)
                      have qi116 : (0 < [a0].length) = True := eq_true (by omega)
                      (try rw [show ((0 : Int)).toNat = 0 from rfl] at hx116_0)
                      (try rw [show 0 * 2 = 0 from rfl] at hx116_0)
                      (try rw [Addr.add_zero'] at hx116_0)
                      (try rw [show ((0 : Int)).toNat = 0 from rfl] at hx116_1)
                      (try rw [show 0 * 2 = 0 from rfl] at hx116_1)
                      (try rw [Addr.add_zero'] at hx116_1)
                      have HR116_0 := Aside0.mk hi116_0
                      have HC116_0 := Aside0.mk hl116_0
                      clear hi116_0 hl116_0
                      have HR116_1 := Aside0.mk hi116_1
                      have HC116_1 := Aside0.mk hl116_1
                      clear hi116_1 hl116_1
                      replace p116 := eq_true p116
                      replace q116 := eq_true q116
                      have p117 : 0 ≤ (x5_2 : Int) := of_decide_eq_true (by first | (with_reducible assumption) | assumption)
                      have q117 : x5_2 < (((rd_T62 [a0] 0).f0).length : Int) := of_decide_eq_true (by first | (with_reducible assumption) | assumption)
                      obtain ⟨ad117, A117_4, c117_4, e117, hx117_0, hx117_1, hx117_2, hx117_3, hx117_4, hl117_4, hi117_4⟩ := at_T115 HR116_0.out x5_2 p117 q117
                      cases e117
                      have HR117_4 := Aside0.mk hi117_4
                      have HC117_4 := Aside0.mk hl117_4
                      clear hi117_4 hl117_4
                      replace p117 := eq_true p117
                      replace q117 := eq_true q117
                      have p118 : 0 ≤ (0 : Int) := (by omega)
                      have q118 : 0 < ([a1].length : Int) := (by simp)
                      obtain ⟨ad118, A118_0, c118_0, A118_1, c118_1, e118, hx118_0, hx118_1, hl118_0, hi118_0, hl118_1, hi118_1⟩ := at_T62 HR1.out 0 p118 q118
                      obtain rfl : adp1 = ad118 := (by injection e118)
                      have qi118 : (0 < [a1].length) = True := eq_true (by omega)
                      (try rw [show ((0 : Int)).toNat = 0 from rfl] at hx118_0)
                      (try rw [show 0 * 2 = 0 from rfl] at hx118_0)
                      (try rw [Addr.add_zero'] at hx118_0)
                      (try rw [show ((0 : Int)).toNat = 0 from rfl] at hx118_1)
                      (try rw [show 0 * 2 = 0 from rfl] at hx118_1)
                      (try rw [Addr.add_zero'] at hx118_1)
                      have HR118_0 := Aside0.mk hi118_0
                      have HC118_0 := Aside0.mk hl118_0
                      clear hi118_0 hl118_0
                      have HR118_1 := Aside0.mk hi118_1
                      have HC118_1 := Aside0.mk hl118_1
                      clear hi118_1 hl118_1
                      replace p118 := eq_true p118
                      replace q118 := eq_true q118
                      have p119 : 0 ≤ (x5_2 : Int) := of_decide_eq_true (by first | (with_reducible assumption) | assumption)
                      have q119 : x5_2 < (((rd_T62 [a1] 0).f0).length : Int) := of_decide_eq_true (by first | (with_reducible assumption) | assumption)
                      obtain ⟨ad119, A119_4, c119_4, e119, hx119_0, hx119_1, hx119_2, hx119_3, hx119_4, hl119_4, hi119_4⟩ := at_T115 HR118_0.out x5_2 p119 q119
                      cases e119
                      have HR119_4 := Aside0.mk hi119_4
                      have HC119_4 := Aside0.mk hl119_4
                      clear hi119_4 hl119_4
                      replace p119 := eq_true p119
                      replace q119 := eq_true q119
                      have p120 : 0 ≤ (x5_2 : Int) := of_decide_eq_true (by first | (with_reducible assumption) | assumption)
                      have q120 : x5_2 < (((rd_T62 [a0] 0).f0).length : Int) := of_decide_eq_true (by first | (with_reducible assumption) | assumption)
                      obtain ⟨ad120, A120_4, c120_4, e120, hx120_0, hx120_1, hx120_2, hx120_3, hx120_4, hl120_4, hi120_4⟩ := at_T115 HR116_0.out x5_2 p120 q120
                      obtain rfl : ad117 = ad120 := (by injection e120)
                      have HR120_4 := Aside0.mk hi120_4
                      have HC120_4 := Aside0.mk hl120_4
                      clear hi120_4 hl120_4
                      replace p120 := eq_true p120
                      replace q120 := eq_true q120
                      have ea_ := Option.some.inj (hx117_4.symm.trans hx120_4)
                      injection ea_ with ea_ en_ ec_
                      subst ea_
                      subst ec_
                      clear en_
                      have p121 : 0 ≤ (x5_2 : Int) := of_decide_eq_true (by first | (with_reducible assumption) | assumption)
                      have q121 : x5_2 < (((rd_T62 [a1] 0).f0).length : Int) := of_decide_eq_true (by first | (with_reducible assumption) | assumption)
                      obtain ⟨ad121, A121_4, c121_4, e121, hx121_0, hx121_1, hx121_2, hx121_3, hx121_4, hl121_4, hi121_4⟩ := at_T115 HR118_0.out x5_2 p121 q121
                      obtain rfl : ad119 = ad121 := (by injection e121)
                      have HR121_4 := Aside0.mk hi121_4
                      have HC121_4 := Aside0.mk hl121_4
                      clear hi121_4 hl121_4
                      replace p121 := eq_true p121
                      replace q121 := eq_true q121
                      have ea_ := Option.some.inj (hx119_4.symm.trans hx121_4)
                      injection ea_ with ea_ en_ ec_
                      subst ea_
                      subst ec_
                      clear en_
                      go_wp2
                      repeat (go_quiet (fail); try go_wp2)
                      go_ret
                      exact ⟨by first | rfl | (simp; done) | (simp [*]; done), by repeat (first | exact Drawn0.refl _ | apply Drawn0.step)⟩
                  · rw [if_neg c9] at H
                    have c9b0 : (((rd_T115 ((rd_T62 [a0] 0).f0) x5_2).f0) == ((rd_T115 ((rd_T62 [a1] 0).f0) x5_2).f0)) = false := beq_eq_false_iff_ne.mpr c9
                    have c9b1 : (((rd_T115 ((rd_T62 [a0] 0).f0) x5_2).f0) != ((rd_T115 ((rd_T62 [a1] 0).f0) x5_2).f0)) = true := bne_iff_ne.mpr c9
                    obtain rfl := Option.some.inj H
                    have p116 : 0 ≤ (0 : Int) := (by omega)
                    have q116 : 0 < ([a0].length : Int) := (by simp)
                    obtain ⟨ad116, A116_0, c116_0, A116_1, c116_1, e116, hx116_0, hx116_1, hl116_0, hi116_0, hl116_1, hi116_1⟩ := at_T62 HR0.out 0 p116 q116
                    obtain rfl : adp0 = ad116 := (by injection e116)
                    have qi116 : (0 < [a0].length) = True := eq_true (by omega)
                    (try rw [show ((0 : Int)).toNat = 0 from rfl] at hx116_0)
                    (try rw [show 0 * 2 = 0 from rfl] at hx116_0)
                    (try rw [Addr.add_zero'] at hx116_0)
                    (try rw [show ((0 : Int)).toNat = 0 from rfl] at hx116_1)
                    (try rw [show 0 * 2 = 0 from rfl] at hx116_1)
                    (try rw [Addr.add_zero'] at hx116_1)
                    have HR116_0 := Aside0.mk hi116_0
                    have HC116_0 := Aside0.mk hl116_0
                    clear hi116_0 hl116_0
                    have HR116_1 := Aside0.mk hi116_1
                    have HC116_1 := Aside0.mk hl116_1
                    clear hi116_1 hl116_1
                    replace p116 := eq_true p116
                    replace q116 := eq_true q116
                    have p117 : 0 ≤ (x5_2 : Int) := of_decide_eq_true (by first | (with_reducible assumption) | assumption)
                    have q117 : x5_2 < (((rd_T62 [a0] 0).f0).length : Int) := of_decide_eq_true (by first | (with_reducible assumption) | assumption)
                    obtain ⟨ad117, A117_4, c117_4, e117, hx117_0, hx117_1, hx117_2, hx117_3, hx117_4, hl117_4, hi117_4⟩ := at_T115 HR116_0.out x5_2 p117 q117
                    cases e117
                    have HR117_4 := Aside0.mk hi117_4
                    have HC117_4 := Aside0.mk hl117_4
                    clear hi117_4 hl117_4
                    replace p117 := eq_true p117
                    replace q117 := eq_true q117
                    have p118 : 0 ≤ (0 : Int) := (by omega)
                    have q118 : 0 < ([a1].length : Int) := (by simp)
                    obtain ⟨ad118, A118_0, c118_0, A118_1, c118_1, e118, hx118_0, hx118_1, hl118_0, hi118_0, hl118_1, hi118_1⟩ := at_T62 HR1.out 0 p118 q118
                    obtain rfl : adp1 = ad118 := (by injection e118)
                    have qi118 : (0 < [a1].length) = True := eq_true (by omega)
                    (try rw [show ((0 : Int)).toNat = 0 from rfl] at hx118_0)
                    (try rw [show 0 * 2 = 0 from rfl] at hx118_0)
                    (try rw [Addr.add_zero'] at hx118_0)
                    (try rw [show ((0 : Int)).toNat = 0 from rfl] at hx118_1)
                    (try rw [show 0 * 2 = 0 from rfl] at hx118_1)
                    (try rw [Addr.add_zero'] at hx118_1)
                    have HR118_0 := Aside0.mk hi118_0
                    have HC118_0 := Aside0.mk hl118_0
                    clear hi118_0 hl118_0
                    have HR118_1 := Aside0.mk hi118_1
                    have HC118_1 := Aside0.mk hl118_1
                    clear hi118_1 hl118_1
                    replace p118 := eq_true p118
                    replace q118 := eq_true q118
                    have p119 : 0 ≤ (x5_2 : Int) := of_decide_eq_true (by first | (with_reducible assumption) | assumption)
                    have q119 : x5_2 < (((rd_T62 [a1] 0).f0).length : Int) := of_decide_eq_true (by first | (with_reducible assumption) | assumption)
                    obtain ⟨ad119, A119_4, c119_4, e119, hx119_0, hx119_1, hx119_2, hx119_3, hx119_4, hl119_4, hi119_4⟩ := at_T115 HR118_0.out x5_2 p119 q119
                    cases e119
                    have HR119_4 := Aside0.mk hi119_4
                    have HC119_4 := Aside0.mk hl119_4
                    clear hi119_4 hl119_4
                    replace p119 := eq_true p119
                    replace q119 := eq_true q119
                    have p120 : 0 ≤ (x5_2 : Int) := of_decide_eq_true (by first | (with_reducible assumption) | assumption)
                    have q120 : x5_2 < (((rd_T62 [a0] 0).f0).length : Int) := of_decide_eq_true (by first | (with_reducible assumption) | assumption)
                    obtain ⟨ad120, A120_4, c120_4, e120, hx120_0, hx120_1, hx120_2, hx120_3, hx120_4, hl120_4, hi120_4⟩ := at_T115 HR116_0.out x5_2 p120 q120
                    obtain rfl : ad117 = ad120 := (by injection e120)
                    have HR120_4 := Aside0.mk hi120_4
                    have HC120_4 := Aside0.mk hl120_4
                    clear hi120_4 hl120_4
                    replace p120 := eq_true p120
                    replace q120 := eq_true q120
                    have ea_ := Option.some.inj (hx117_4.symm.trans hx120_4)
                    injection ea_ with ea_ en_ ec_
                    subst ea_
                    subst ec_
                    clear en_
                    have p121 : 0 ≤ (x5_2 : Int) := of_decide_eq_true (by first | (with_reducible assumption) | assumption)
                    have q121 : x5_2 < (((rd_T62 [a1] 0).f0).length : Int) := of_decide_eq_true (by first | (with_reducible assumption) | assumption)
                    obtain ⟨ad121, A121_4, c121_4, e121, hx121_0, hx121_1, hx121_2, hx121_3, hx121_4, hl121_4, hi121_4⟩ := at_T115 HR118_0.out x5_2 p121 q121
                    obtain rfl : ad119 = ad121 := (by injection e121)
                    have HR121_4 := Aside0.mk hi121_4
                    have HC121_4 := Aside0.mk hl121_4
                    clear hi121_4 hl121_4
                    replace p121 := eq_true p121
                    replace q121 := eq_true q121
                    have ea_ := Option.some.inj (hx119_4.symm.trans hx121_4)
                    injection ea_ with ea_ en_ ec_
                    subst ea_
                    subst ec_
                    clear en_
                    go_wp2
                    repeat (go_quiet (fail); try go_wp2)
                    go_ret
                    exact ⟨by first | rfl | (simp; done) | (simp [*]; done), by repeat (first | exact Drawn0.refl _ | apply Drawn0.step)⟩
                · rw [if_neg c8] at H
                  exact absurd H (by simp)
              · rw [if_neg c7] at H
                exact absurd H (by simp)
            · rw [if_neg c6] at H
              have c6b0 : decide (x5_2 < (((rd_T62 [a0] 0).f0).length : Int)) = false := decide_eq_false c6
              clear c6
              have H' := Aside0.mk H
              clear H
              have p116 : 0 ≤ (0 : Int) := (by omega)
              have q116 : 0 < ([a0].length : Int) := (by simp)
              obtain ⟨ad116, A116_0, c116_0, A116_1, c116_1, e116, hx116_0, hx116_1, hl116_0, hi116_0, hl116_1, hi116_1⟩ := at_T62 HR0.out 0 p116 q116
              obtain rfl : adp0 = ad116 := (by injection e116)
              have qi116 : (0 < [a0].length) = True := eq_true (by omega)
              (try rw [show ((0 : Int)).toNat = 0 from rfl] at hx116_0)
              (try rw [show 0 * 2 = 0 from rfl] at hx116_0)
              (try rw [Addr.add_zero'] at hx116_0)
              (try rw [show ((0 : Int)).toNat = 0 from rfl] at hx116_1)
              (try rw [show 0 * 2 = 0 from rfl] at hx116_1)
              (try rw [Addr.add_zero'] at hx116_1)
              have HR116_0 := Aside0.mk hi116_0
              have HC116_0 := Aside0.mk hl116_0
              clear hi116_0 hl116_0
              have HR116_1 := Aside0.mk hi116_1
              have HC116_1 := Aside0.mk hl116_1
              clear hi116_1 hl116_1
              replace p116 := eq_true p116
              replace q116 := eq_true q116
              go_wp2
              repeat (go_quiet (fail); try go_wp2)
              go_loopg [8] k2 (fun kq v8 w' => ∃ (x8_3 : Int), v8 = .int .i64 x8_3 ∧ Aside0 (spec_l6Same.l1 kq a0 a1 x8_3 = some r) ∧ Aside0 (kq ≤ k2) ∧ Drawn0 w w')
              case atStart => exact ⟨(0), (by first | rfl | (simp; done) | (simp [*]; done)), H', ⟨Nat.le_refl _⟩, by repeat (first | exact Drawn0.refl _ | apply Drawn0.step)⟩
              case round =>
                clear H'
                try clear c1
                try clear p1
                try clear q1
                try clear hx1
                try clear qi1
                try clear p2
                try clear c6
                try clear c6b0
                try clear p6
                try clear c7
                try clear c8
                try clear c9
                try clear c9b0
                try clear c9b1
                try clear c10
                try clear c10b0
                try clear c10b1
                try clear c11
                try clear c11b0
                try clear c11b1
                try clear p11
                try clear q11
                try clear hx11
                try clear qi11
                try clear c12
                try clear c12b0
                try clear c12b1
                try clear p12
                try clear q12
                try clear hx12
                try clear c14
                try clear hx116_0
                try clear hx116_1
                try clear hx117_0
                try clear hx117_1
                try clear hx117_2
                try clear hx117_3
                try clear hx117_4
                try clear hx118_0
                try clear hx118_1
                try clear hx119_0
                try clear hx119_1
                try clear hx119_2
                try clear hx119_3
                try clear hx119_4
                try clear hx120_0
                try clear hx120_1
                try clear hx120_2
                try clear hx120_3
                try clear hx120_4
                try clear hx121_0
                try clear hx121_1
                try clear hx121_2
                try clear hx121_3
                try clear hx121_4
                try clear p116
                try clear p117
                try clear p118
                try clear p119
                try clear p120
                try clear p121
                try clear q116
                try clear q117
                try clear q118
                try clear q119
                try clear q120
                try clear q121
                obtain ⟨x8_3, rfl, HA, HK3, ⟨m3, rfl⟩⟩ := hrel
                cases gk with
                | zero => exact absurd HA.out (by simp [spec_l6Same.l1])
                | succ k3 =>
                  have H := HA.out
                  clear HA
                  simp only [spec_l6Same.l1] at H
                  by_cases c15 : x8_3 < (((rd_T62 [a0] 0).f1).length : Int)
                  · rw [if_pos c15] at H
                    have c15b0 : decide (x8_3 < (((rd_T62 [a0] 0).f1).length : Int)) = true := decide_eq_true c15
                    clear c15
                    by_cases c16 : 0 ≤ x8_3
                    · rw [if_pos c16] at H
                      have c16b0 : decide (0 ≤ x8_3) = true := decide_eq_true c16
                      clear c16
                      by_cases c17 : x8_3 < (((rd_T62 [a1] 0).f1).length : Int)
                      · rw [if_pos c17] at H
                        have c17b0 : decide (x8_3 < (((rd_T62 [a1] 0).f1).length : Int)) = true := decide_eq_true c17
                        clear c17
                        by_cases c18 : ((rd_T119 ((rd_T62 [a0] 0).f1) x8_3).f0) = ((rd_T119 ((rd_T62 [a1] 0).f1) x8_3).f0)
                        · rw [if_pos c18] at H
                          have c18b0 : (((rd_T119 ((rd_T62 [a0] 0).f1) x8_3).f0) == ((rd_T119 ((rd_T62 [a1] 0).f1) x8_3).f0)) = true := beq_iff_eq.mpr c18
                          have c18b1 : (((rd_T119 ((rd_T62 [a0] 0).f1) x8_3).f0) != ((rd_T119 ((rd_T62 [a1] 0).f1) x8_3).f0)) = false := bne_eq_false_iff_eq.mpr c18
                          clear c18
                          by_cases c19 : ((rd_T119 ((rd_T62 [a0] 0).f1) x8_3).f1) = ((rd_T119 ((rd_T62 [a1] 0).f1) x8_3).f1)
                          · rw [if_pos c19] at H
                            have c19b0 : (((rd_T119 ((rd_T62 [a0] 0).f1) x8_3).f1) == ((rd_T119 ((rd_T62 [a1] 0).f1) x8_3).f1)) = true := beq_iff_eq.mpr c19
                            have c19b1 : (((rd_T119 ((rd_T62 [a0] 0).f1) x8_3).f1) != ((rd_T119 ((rd_T62 [a1] 0).f1) x8_3).f1)) = false := bne_eq_false_iff_eq.mpr c19
                            clear c19
                            replace H := Option.bind_eq_some_iff.mp H
                            obtain ⟨t129, A200, H⟩ := H
                            replace H : (if t129 = true then (spec_l6Same.l1 k3 a0 a1 (wrap64 (x8_3 + 1))) else (some false)) = some r := H
                            have A20 := Aside0.mk A200
                            clear A200
                            by_cases c21 : t129 = true
                            · subst c21
                              have H1 : (spec_l6Same.l1 k3 a0 a1 (wrap64 (x8_3 + 1))) = some r := by rw [if_pos rfl] at H; exact H
                              clear H
                              have H := H1
                              clear H1
                              have H' := Aside0.mk H
                              clear H
                              have p123 : 0 ≤ (0 : Int) := (by omega)
                              have q123 : 0 < ([a0].length : Int) := (by simp)
                              obtain ⟨ad123, A123_0, c123_0, A123_1, c123_1, e123, hx123_0, hx123_1, hl123_0, hi123_0, hl123_1, hi123_1⟩ := at_T62 HR0.out 0 p123 q123
                              obtain rfl : adp0 = ad123 := (by injection e123)
                              have qi123 : (0 < [a0].length) = True := eq_true (by omega)
                              (try rw [show ((0 : Int)).toNat = 0 from rfl] at hx123_0)
                              (try rw [show 0 * 2 = 0 from rfl] at hx123_0)
                              (try rw [Addr.add_zero'] at hx123_0)
                              (try rw [show ((0 : Int)).toNat = 0 from rfl] at hx123_1)
                              (try rw [show 0 * 2 = 0 from rfl] at hx123_1)
                              (try rw [Addr.add_zero'] at hx123_1)
                              have HR123_0 := Aside0.mk hi123_0
                              have HC123_0 := Aside0.mk hl123_0
                              clear hi123_0 hl123_0
                              have HR123_1 := Aside0.mk hi123_1
                              have HC123_1 := Aside0.mk hl123_1
                              clear hi123_1 hl123_1
                              replace p123 := eq_true p123
                              replace q123 := eq_true q123
                              have p124 : 0 ≤ (x8_3 : Int) := of_decide_eq_true (by first | (with_reducible assumption) | assumption)
                              have q124 : x8_3 < (((rd_T62 [a0] 0).f1).length : Int) := of_decide_eq_true (by first | (with_reducible assumption) | assumption)
                              obtain ⟨ad124, A124_2, c124_2, e124, hx124_0, hx124_1, hx124_2, hl124_2, hi124_2⟩ := at_T119 HR123_1.out x8_3 p124 q124
                              cases e124
                              have HR124_2 := Aside0.mk hi124_2
                              have HC124_2 := Aside0.mk hl124_2
                              clear hi124_2 hl124_2
                              replace p124 := eq_true p124
                              replace q124 := eq_true q124
                              have p125 : 0 ≤ (0 : Int) := (by omega)
                              have q125 : 0 < ([a1].length : Int) := (by simp)
                              obtain ⟨ad125, A125_0, c125_0, A125_1, c125_1, e125, hx125_0, hx125_1, hl125_0, hi125_0, hl125_1, hi125_1⟩ := at_T62 HR1.out 0 p125 q125
                              obtain rfl : adp1 = ad125 := (by injection e125)
                              have qi125 : (0 < [a1].length) = True := eq_true (by omega)
                              (try rw [show ((0 : Int)).toNat = 0 from rfl] at hx125_0)
                              (try rw [show 0 * 2 = 0 from rfl] at hx125_0)
                              (try rw [Addr.add_zero'] at hx125_0)
                              (try rw [show ((0 : Int)).toNat = 0 from rfl] at hx125_1)
                              (try rw [show 0 * 2 = 0 from rfl] at hx125_1)
                              (try rw [Addr.add_zero'] at hx125_1)
                              have HR125_0 := Aside0.mk hi125_0
                              have HC125_0 := Aside0.mk hl125_0
                              clear hi125_0 hl125_0
                              have HR125_1 := Aside0.mk hi125_1
                              have HC125_1 := Aside0.mk hl125_1
                              clear hi125_1 hl125_1
                              replace p125 := eq_true p125
                              replace q125 := eq_true q125
                              have p126 : 0 ≤ (x8_3 : Int) := of_decide_eq_true (by first | (with_reducible assumption) | assumption)
                              have q126 : x8_3 < (((rd_T62 [a1] 0).f1).length : Int) := of_decide_eq_true (by first | (with_reducible assumption) | assumption)
                              obtain ⟨ad126, A126_2, c126_2, e126, hx126_0, hx126_1, hx126_2, hl126_2, hi126_2⟩ := at_T119 HR125_1.out x8_3 p126 q126
                              cases e126
                              have HR126_2 := Aside0.mk hi126_2
                              have HC126_2 := Aside0.mk hl126_2
                              clear hi126_2 hl126_2
                              replace p126 := eq_true p126
                              replace q126 := eq_true q126
                              have p127 : 0 ≤ (x8_3 : Int) := of_decide_eq_true (by first | (with_reducible assumption) | assumption)
                              have q127 : x8_3 < (((rd_T62 [a0] 0).f1).length : Int) := of_decide_eq_true (by first | (with_reducible assumption) | assumption)
                              obtain ⟨ad127, A127_2, c127_2, e127, hx127_0, hx127_1, hx127_2, hl127_2, hi127_2⟩ := at_T119 HR123_1.out x8_3 p127 q127
                              obtain rfl : ad124 = ad127 := (by injection e127)
                              have HR127_2 := Aside0.mk hi127_2
                              have HC127_2 := Aside0.mk hl127_2
                              clear hi127_2 hl127_2
                              replace p127 := eq_true p127
                              replace q127 := eq_true q127
                              have ea_ := Option.some.inj (hx124_2.symm.trans hx127_2)
                              injection ea_ with ea_ en_ ec_
                              subst ea_
                              subst ec_
                              clear en_
                              have p128 : 0 ≤ (x8_3 : Int) := of_decide_eq_true (by first | (with_reducible assumption) | assumption)
                              have q128 : x8_3 < (((rd_T62 [a1] 0).f1).length : Int) := of_decide_eq_true (by first | (with_reducible assumption) | assumption)
                              obtain ⟨ad128, A128_2, c128_2, e128, hx128_0, hx128_1, hx128_2, hl128_2, hi128_2⟩ := at_T119 HR125_1.out x8_3 p128 q128
                              obtain rfl : ad126 = ad128 := (by injection e128)
                              have HR128_2 := Aside0.mk hi128_2
                              have HC128_2 := Aside0.mk hl128_2
                              clear hi128_2 hl128_2
                              replace p128 := eq_true p128
                              replace q128 := eq_true q128
                              have ea_ := Option.some.inj (hx126_2.symm.trans hx128_2)
                              injection ea_ with ea_ en_ ec_
                              subst ea_
                              subst ec_
                              clear en_
                              go_wp2_with (first | (go_at_call 71; (with_reducible refine (spec_l4SameExpr.calls k3 _ _ ((rd_T119 ((rd_T62 [a0] 0).f1) x8_3).f2) _ _ ((rd_T119 ((rd_T62 [a1] 0).f1) x8_3).f2) true _ ?side1 ?side2 ?side3 ?side4 A20.out).mono ?_); (case side1 => repeat (first | exact HR127_2.out | (with_reducible refine Kd.C_alloc ?_ _) | (with_reducible refine Kd.C_drewN ?_ _) | (with_reducible refine Kd.C_drew ?_))); (case side2 => exact HC127_2.out); (case side3 => repeat (first | exact HR128_2.out | (with_reducible refine Kd.C_alloc ?_ _) | (with_reducible refine Kd.C_drewN ?_ _) | (with_reducible refine Kd.C_drew ?_))); (case side4 => exact HC128_2.out); rintro e w' ⟨rfl, ⟨nd, rfl⟩⟩; (try first | exact ⟨rfl, _, World.drewN_drewN _ _ _⟩ | exact ⟨rfl, _, Eq.trans (World.drewN_drewN _ _ _) (congrArg (World.drewN _) (Nat.add_assoc _ _ _))⟩)) | go_quiet (first | (go_at_call 71; (with_reducible refine (spec_l4SameExpr.calls k3 _ _ ((rd_T119 ((rd_T62 [a0] 0).f1) x8_3).f2) _ _ ((rd_T119 ((rd_T62 [a1] 0).f1) x8_3).f2) true _ ?side1 ?side2 ?side3 ?side4 A20.out).mono ?_); (case side1 => repeat (first | exact HR127_2.out | (with_reducible refine Kd.C_alloc ?_ _) | (with_reducible refine Kd.C_drewN ?_ _) | (with_reducible refine Kd.C_drew ?_))); (case side2 => exact HC127_2.out); (case side3 => repeat (first | exact HR128_2.out | (with_reducible refine Kd.C_alloc ?_ _) | (with_reducible refine Kd.C_drewN ?_ _) | (with_reducible refine Kd.C_drew ?_))); (case side4 => exact HC128_2.out); rintro e w' ⟨rfl, ⟨nd, rfl⟩⟩; (try first | exact ⟨rfl, _, World.drewN_drewN _ _ _⟩ | exact ⟨rfl, _, Eq.trans (World.drewN_drewN _ _ _) (congrArg (World.drewN _) (Nat.add_assoc _ _ _))⟩))))
                              go_roundg k3
                              case measure => have := HJ2.out; have := HK2.out; have := HK3.out; omega
                              case rel => exact ⟨(wrap64 (x8_3 + 1)), (by first | rfl | (simp; done) | (simp [*]; done)), H', ⟨by have := HJ2.out; have := HK2.out; have := HK3.out; omega⟩, by repeat (first | exact Drawn0.refl _ | apply Drawn0.step)⟩
                            · replace c21 := Bool.eq_false_iff.mpr c21
                              subst c21
                              have H1 : (some false) = some r := by rw [if_neg (show ¬ (false = true) by decide)] at H; exact H
                              clear H
                              have H := H1
                              clear H1
                              obtain rfl := Option.some.inj H
                              have p123 : 0 ≤ (0 : Int) := (by omega)
                              have q123 : 0 < ([a0].length : Int) := (by simp)
                              obtain ⟨ad123, A123_0, c123_0, A123_1, c123_1, e123, hx123_0, hx123_1, hl123_0, hi123_0, hl123_1, hi123_1⟩ := at_T62 HR0.out 0 p123 q123
                              obtain rfl : adp0 = ad123 := (by injection e123)
                              have qi123 : (0 < [a0].length) = True := eq_true (by omega)
                              (try rw [show ((0 : Int)).toNat = 0 from rfl] at hx123_0)
                              (try rw [show 0 * 2 = 0 from rfl] at hx123_0)
                              (try rw [Addr.add_zero'] at hx123_0)
                              (try rw [show ((0 : Int)).toNat = 0 from rfl] at hx123_1)
                              (try rw [show 0 * 2 = 0 from rfl] at hx123_1)
                              (try rw [Addr.add_zero'] at hx123_1)
                              have HR123_0 := Aside0.mk hi123_0
                              have HC123_0 := Aside0.mk hl123_0
                              clear hi123_0 hl123_0
                              have HR123_1 := Aside0.mk hi123_1
                              have HC123_1 := Aside0.mk hl123_1
                              clear hi123_1 hl123_1
                              replace p123 := eq_true p123
                              replace q123 := eq_true q123
                              have p124 : 0 ≤ (x8_3 : Int) := of_decide_eq_true (by first | (with_reducible assumption) | assumption)
                              have q124 : x8_3 < (((rd_T62 [a0] 0).f1).length : Int) := of_decide_eq_true (by first | (with_reducible assumption) | assumption)
                              obtain ⟨ad124, A124_2, c124_2, e124, hx124_0, hx124_1, hx124_2, hl124_2, hi124_2⟩ := at_T119 HR123_1.out x8_3 p124 q124
                              cases e124
                              have HR124_2 := Aside0.mk hi124_2
                              have HC124_2 := Aside0.mk hl124_2
                              clear hi124_2 hl124_2
                              replace p124 := eq_true p124
                              replace q124 := eq_true q124
                              have p125 : 0 ≤ (0 : Int) := (by omega)
                              have q125 : 0 < ([a1].length : Int) := (by simp)
                              obtain ⟨ad125, A125_0, c125_0, A125_1, c125_1, e125, hx125_0, hx125_1, hl125_0, hi125_0, hl125_1, hi125_1⟩ := at_T62 HR1.out 0 p125 q125
                              obtain rfl : adp1 = ad125 := (by injection e125)
                              have qi125 : (0 < [a1].length) = True := eq_true (by omega)
                              (try rw [show ((0 : Int)).toNat = 0 from rfl] at hx125_0)
                              (try rw [show 0 * 2 = 0 from rfl] at hx125_0)
                              (try rw [Addr.add_zero'] at hx125_0)
                              (try rw [show ((0 : Int)).toNat = 0 from rfl] at hx125_1)
                              (try rw [show 0 * 2 = 0 from rfl] at hx125_1)
                              (try rw [Addr.add_zero'] at hx125_1)
                              have HR125_0 := Aside0.mk hi125_0
                              have HC125_0 := Aside0.mk hl125_0
                              clear hi125_0 hl125_0
                              have HR125_1 := Aside0.mk hi125_1
                              have HC125_1 := Aside0.mk hl125_1
                              clear hi125_1 hl125_1
                              replace p125 := eq_true p125
                              replace q125 := eq_true q125
                              have p126 : 0 ≤ (x8_3 : Int) := of_decide_eq_true (by first | (with_reducible assumption) | assumption)
                              have q126 : x8_3 < (((rd_T62 [a1] 0).f1).length : Int) := of_decide_eq_true (by first | (with_reducible assumption) | assumption)
                              obtain ⟨ad126, A126_2, c126_2, e126, hx126_0, hx126_1, hx126_2, hl126_2, hi126_2⟩ := at_T119 HR125_1.out x8_3 p126 q126
                              cases e126
                              have HR126_2 := Aside0.mk hi126_2
                              have HC126_2 := Aside0.mk hl126_2
                              clear hi126_2 hl126_2
                              replace p126 := eq_true p126
                              replace q126 := eq_true q126
                              have p127 : 0 ≤ (x8_3 : Int) := of_decide_eq_true (by first | (with_reducible assumption) | assumption)
                              have q127 : x8_3 < (((rd_T62 [a0] 0).f1).length : Int) := of_decide_eq_true (by first | (with_reducible assumption) | assumption)
                              obtain ⟨ad127, A127_2, c127_2, e127, hx127_0, hx127_1, hx127_2, hl127_2, hi127_2⟩ := at_T119 HR123_1.out x8_3 p127 q127
                              obtain rfl : ad124 = ad127 := (by injection e127)
                              have HR127_2 := Aside0.mk hi127_2
                              have HC127_2 := Aside0.mk hl127_2
                              clear hi127_2 hl127_2
                              replace p127 := eq_true p127
                              replace q127 := eq_true q127
                              have ea_ := Option.some.inj (hx124_2.symm.trans hx127_2)
                              injection ea_ with ea_ en_ ec_
                              subst ea_
                              subst ec_
                              clear en_
                              have p128 : 0 ≤ (x8_3 : Int) := of_decide_eq_true (by first | (with_reducible assumption) | assumption)
                              have q128 : x8_3 < (((rd_T62 [a1] 0).f1).length : Int) := of_decide_eq_true (by first | (with_reducible assumption) | assumption)
                              obtain ⟨ad128, A128_2, c128_2, e128, hx128_0, hx128_1, hx128_2, hl128_2, hi128_2⟩ := at_T119 HR125_1.out x8_3 p128 q128
                              obtain rfl : ad126 = ad128 := (by injection e128)
                              have HR128_2 := Aside0.mk hi128_2
                              have HC128_2 := Aside0.mk hl128_2
                              clear hi128_2 hl128_2
                              replace p128 := eq_true p128
                              replace q128 := eq_true q128
                              have ea_ := Option.some.inj (hx126_2.symm.trans hx128_2)
                              injection ea_ with ea_ en_ ec_
                              subst ea_
                              subst ec_
                              clear en_
                              go_wp2_with (first | (go_at_call 71; (with_reducible refine (spec_l4SameExpr.calls k3 _ _ ((rd_T119 ((rd_T62 [a0] 0).f1) x8_3).f2) _ _ ((rd_T119 ((rd_T62 [a1] 0).f1) x8_3).f2) false _ ?side1 ?side2 ?side3 ?side4 A20.out).mono ?_); (case side1 => repeat (first | exact HR127_2.out | (with_reducible refine Kd.C_alloc ?_ _) | (with_reducible refine Kd.C_drewN ?_ _) | (with_reducible refine Kd.C_drew ?_))); (case side2 => exact HC127_2.out); (case side3 => repeat (first | exact HR128_2.out | (with_reducible refine Kd.C_alloc ?_ _) | (with_reducible refine Kd.C_drewN ?_ _) | (with_reducible refine Kd.C_drew ?_))); (case side4 => exact HC128_2.out); rintro e w' ⟨rfl, ⟨nd, rfl⟩⟩; (try first | exact ⟨rfl, _, World.drewN_drewN _ _ _⟩ | exact ⟨rfl, _, Eq.trans (World.drewN_drewN _ _ _) (congrArg (World.drewN _) (Nat.add_assoc _ _ _))⟩)) | go_quiet (first | (go_at_call 71; (with_reducible refine (spec_l4SameExpr.calls k3 _ _ ((rd_T119 ((rd_T62 [a0] 0).f1) x8_3).f2) _ _ ((rd_T119 ((rd_T62 [a1] 0).f1) x8_3).f2) false _ ?side1 ?side2 ?side3 ?side4 A20.out).mono ?_); (case side1 => repeat (first | exact HR127_2.out | (with_reducible refine Kd.C_alloc ?_ _) | (with_reducible refine Kd.C_drewN ?_ _) | (with_reducible refine Kd.C_drew ?_))); (case side2 => exact HC127_2.out); (case side3 => repeat (first | exact HR128_2.out | (with_reducible refine Kd.C_alloc ?_ _) | (with_reducible refine Kd.C_drewN ?_ _) | (with_reducible refine Kd.C_drew ?_))); (case side4 => exact HC128_2.out); rintro e w' ⟨rfl, ⟨nd, rfl⟩⟩; (try first | exact ⟨rfl, _, World.drewN_drewN _ _ _⟩ | exact ⟨rfl, _, Eq.trans (World.drewN_drewN _ _ _) (congrArg (World.drewN _) (Nat.add_assoc _ _ _))⟩))))
                              go_ret
                              exact ⟨by first | rfl | (simp; done) | (simp [*]; done), by repeat (first | exact Drawn0.refl _ | apply Drawn0.step)⟩
                          · rw [if_neg c19] at H
                            have c19b0 : (((rd_T119 ((rd_T62 [a0] 0).f1) x8_3).f1) == ((rd_T119 ((rd_T62 [a1] 0).f1) x8_3).f1)) = false := beq_eq_false_iff_ne.mpr c19
                            have c19b1 : (((rd_T119 ((rd_T62 [a0] 0).f1) x8_3).f1) != ((rd_T119 ((rd_T62 [a1] 0).f1) x8_3).f1)) = true := bne_iff_ne.mpr c19
                            obtain rfl := Option.some.inj H
                            have p123 : 0 ≤ (0 : Int) := (by omega)
                            have q123 : 0 < ([a0].length : Int) := (by simp)
                            obtain ⟨ad123, A123_0, c123_0, A123_1, c123_1, e123, hx123_0, hx123_1, hl123_0, hi123_0, hl123_1, hi123_1⟩ := at_T62 HR0.out 0 p123 q123
                            obtain rfl : adp0 = ad123 := (by injection e123)
                            have qi123 : (0 < [a0].length) = True := eq_true (by omega)
                            (try rw [show ((0 : Int)).toNat = 0 from rfl] at hx123_0)
                            (try rw [show 0 * 2 = 0 from rfl] at hx123_0)
                            (try rw [Addr.add_zero'] at hx123_0)
                            (try rw [show ((0 : Int)).toNat = 0 from rfl] at hx123_1)
                            (try rw [show 0 * 2 = 0 from rfl] at hx123_1)
                            (try rw [Addr.add_zero'] at hx123_1)
                            have HR123_0 := Aside0.mk hi123_0
                            have HC123_0 := Aside0.mk hl123_0
                            clear hi123_0 hl123_0
                            have HR123_1 := Aside0.mk hi123_1
                            have HC123_1 := Aside0.mk hl123_1
                            clear hi123_1 hl123_1
                            replace p123 := eq_true p123
                            replace q123 := eq_true q123
                            have p124 : 0 ≤ (x8_3 : Int) := of_decide_eq_true (by first | (with_reducible assumption) | assumption)
                            have q124 : x8_3 < (((rd_T62 [a0] 0).f1).length : Int) := of_decide_eq_true (by first | (with_reducible assumption) | assumption)
                            obtain ⟨ad124, A124_2, c124_2, e124, hx124_0, hx124_1, hx124_2, hl124_2, hi124_2⟩ := at_T119 HR123_1.out x8_3 p124 q124
                            cases e124
                            have HR124_2 := Aside0.mk hi124_2
                            have HC124_2 := Aside0.mk hl124_2
                            clear hi124_2 hl124_2
                            replace p124 := eq_true p124
                            replace q124 := eq_true q124
                            have p125 : 0 ≤ (0 : Int) := (by omega)
                            have q125 : 0 < ([a1].length : Int) := (by simp)
                            obtain ⟨ad125, A125_0, c125_0, A125_1, c125_1, e125, hx125_0, hx125_1, hl125_0, hi125_0, hl125_1, hi125_1⟩ := at_T62 HR1.out 0 p125 q125
                            obtain rfl : adp1 = ad125 := (by injection e125)
                            have qi125 : (0 < [a1].length) = True := eq_true (by omega)
                            (try rw [show ((0 : Int)).toNat = 0 from rfl] at hx125_0)
                            (try rw [show 0 * 2 = 0 from rfl] at hx125_0)
                            (try rw [Addr.add_zero'] at hx125_0)
                            (try rw [show ((0 : Int)).toNat = 0 from rfl] at hx125_1)
                            (try rw [show 0 * 2 = 0 from rfl] at hx125_1)
                            (try rw [Addr.add_zero'] at hx125_1)
                            have HR125_0 := Aside0.mk hi125_0
                            have HC125_0 := Aside0.mk hl125_0
                            clear hi125_0 hl125_0
                            have HR125_1 := Aside0.mk hi125_1
                            have HC125_1 := Aside0.mk hl125_1
                            clear hi125_1 hl125_1
                            replace p125 := eq_true p125
                            replace q125 := eq_true q125
                            have p126 : 0 ≤ (x8_3 : Int) := of_decide_eq_true (by first | (with_reducible assumption) | assumption)
                            have q126 : x8_3 < (((rd_T62 [a1] 0).f1).length : Int) := of_decide_eq_true (by first | (with_reducible assumption) | assumption)
                            obtain ⟨ad126, A126_2, c126_2, e126, hx126_0, hx126_1, hx126_2, hl126_2, hi126_2⟩ := at_T119 HR125_1.out x8_3 p126 q126
                            cases e126
                            have HR126_2 := Aside0.mk hi126_2
                            have HC126_2 := Aside0.mk hl126_2
                            clear hi126_2 hl126_2
                            replace p126 := eq_true p126
                            replace q126 := eq_true q126
                            have p127 : 0 ≤ (x8_3 : Int) := of_decide_eq_true (by first | (with_reducible assumption) | assumption)
                            have q127 : x8_3 < (((rd_T62 [a0] 0).f1).length : Int) := of_decide_eq_true (by first | (with_reducible assumption) | assumption)
                            obtain ⟨ad127, A127_2, c127_2, e127, hx127_0, hx127_1, hx127_2, hl127_2, hi127_2⟩ := at_T119 HR123_1.out x8_3 p127 q127
                            obtain rfl : ad124 = ad127 := (by injection e127)
                            have HR127_2 := Aside0.mk hi127_2
                            have HC127_2 := Aside0.mk hl127_2
                            clear hi127_2 hl127_2
                            replace p127 := eq_true p127
                            replace q127 := eq_true q127
                            have ea_ := Option.some.inj (hx124_2.symm.trans hx127_2)
                            injection ea_ with ea_ en_ ec_
                            subst ea_
                            subst ec_
                            clear en_
                            have p128 : 0 ≤ (x8_3 : Int) := of_decide_eq_true (by first | (with_reducible assumption) | assumption)
                            have q128 : x8_3 < (((rd_T62 [a1] 0).f1).length : Int) := of_decide_eq_true (by first | (with_reducible assumption) | assumption)
                            obtain ⟨ad128, A128_2, c128_2, e128, hx128_0, hx128_1, hx128_2, hl128_2, hi128_2⟩ := at_T119 HR125_1.out x8_3 p128 q128
                            obtain rfl : ad126 = ad128 := (by injection e128)
                            have HR128_2 := Aside0.mk hi128_2
                            have HC128_2 := Aside0.mk hl128_2
                            clear hi128_2 hl128_2
                            replace p128 := eq_true p128
                            replace q128 := eq_true q128
                            have ea_ := Option.some.inj (hx126_2.symm.trans hx128_2)
                            injection ea_ with ea_ en_ ec_
                            subst ea_
                            subst ec_
                            clear en_
                            go_wp2
                            repeat (go_quiet (fail); try go_wp2)
                            go_ret
                            exact ⟨by first | rfl | (simp; done) | (simp [*]; done), by repeat (first | exact Drawn0.refl _ | apply Drawn0.step)⟩
                        · rw [if_neg c18] at H
                          have c18b0 : (((rd_T119 ((rd_T62 [a0] 0).f1) x8_3).f0) == ((rd_T119 ((rd_T62 [a1] 0).f1) x8_3).f0)) = false := beq_eq_false_iff_ne.mpr c18
                          have c18b1 : (((rd_T119 ((rd_T62 [a0] 0).f1) x8_3).f0) != ((rd_T119 ((rd_T62 [a1] 0).f1) x8_3).f0)) = true := bne_iff_ne.mpr c18
                          obtain rfl := Option.some.inj H
                          have p123 : 0 ≤ (0 : Int) := (by omega)
                          have q123 : 0 < ([a0].length : Int) := (by simp)
                          obtain ⟨ad123, A123_0, c123_0, A123_1, c123_1, e123, hx123_0, hx123_1, hl123_0, hi123_0, hl123_1, hi123_1⟩ := at_T62 HR0.out 0 p123 q123
                          obtain rfl : adp0 = ad123 := (by injection e123)
                          have qi123 : (0 < [a0].length) = True := eq_true (by omega)
                          (try rw [show ((0 : Int)).toNat = 0 from rfl] at hx123_0)
                          (try rw [show 0 * 2 = 0 from rfl] at hx123_0)
                          (try rw [Addr.add_zero'] at hx123_0)
                          (try rw [show ((0 : Int)).toNat = 0 from rfl] at hx123_1)
                          (try rw [show 0 * 2 = 0 from rfl] at hx123_1)
                          (try rw [Addr.add_zero'] at hx123_1)
                          have HR123_0 := Aside0.mk hi123_0
                          have HC123_0 := Aside0.mk hl123_0
                          clear hi123_0 hl123_0
                          have HR123_1 := Aside0.mk hi123_1
                          have HC123_1 := Aside0.mk hl123_1
                          clear hi123_1 hl123_1
                          replace p123 := eq_true p123
                          replace q123 := eq_true q123
                          have p124 : 0 ≤ (x8_3 : Int) := of_decide_eq_true (by first | (with_reducible assumption) | assumption)
                          have q124 : x8_3 < (((rd_T62 [a0] 0).f1).length : Int) := of_decide_eq_true (by first | (with_reducible assumption) | assumption)
                          obtain ⟨ad124, A124_2, c124_2, e124, hx124_0, hx124_1, hx124_2, hl124_2, hi124_2⟩ := at_T119 HR123_1.out x8_3 p124 q124
                          cases e124
                          have HR124_2 := Aside0.mk hi124_2
                          have HC124_2 := Aside0.mk hl124_2
                          clear hi124_2 hl124_2
                          replace p124 := eq_true p124
                          replace q124 := eq_true q124
                          have p125 : 0 ≤ (0 : Int) := (by omega)
                          have q125 : 0 < ([a1].length : Int) := (by simp)
                          obtain ⟨ad125, A125_0, c125_0, A125_1, c125_1, e125, hx125_0, hx125_1, hl125_0, hi125_0, hl125_1, hi125_1⟩ := at_T62 HR1.out 0 p125 q125
                          obtain rfl : adp1 = ad125 := (by injection e125)
                          have qi125 : (0 < [a1].length) = True := eq_true (by omega)
                          (try rw [show ((0 : Int)).toNat = 0 from rfl] at hx125_0)
                          (try rw [show 0 * 2 = 0 from rfl] at hx125_0)
                          (try rw [Addr.add_zero'] at hx125_0)
                          (try rw [show ((0 : Int)).toNat = 0 from rfl] at hx125_1)
                          (try rw [show 0 * 2 = 0 from rfl] at hx125_1)
                          (try rw [Addr.add_zero'] at hx125_1)
                          have HR125_0 := Aside0.mk hi125_0
                          have HC125_0 := Aside0.mk hl125_0
                          clear hi125_0 hl125_0
                          have HR125_1 := Aside0.mk hi125_1
                          have HC125_1 := Aside0.mk hl125_1
                          clear hi125_1 hl125_1
                          replace p125 := eq_true p125
                          replace q125 := eq_true q125
                          have p126 : 0 ≤ (x8_3 : Int) := of_decide_eq_true (by first | (with_reducible assumption) | assumption)
                          have q126 : x8_3 < (((rd_T62 [a1] 0).f1).length : Int) := of_decide_eq_true (by first | (with_reducible assumption) | assumption)
                          obtain ⟨ad126, A126_2, c126_2, e126, hx126_0, hx126_1, hx126_2, hl126_2, hi126_2⟩ := at_T119 HR125_1.out x8_3 p126 q126
                          cases e126
                          have HR126_2 := Aside0.mk hi126_2
                          have HC126_2 := Aside0.mk hl126_2
                          clear hi126_2 hl126_2
                          replace p126 := eq_true p126
                          replace q126 := eq_true q126
                          have p127 : 0 ≤ (x8_3 : Int) := of_decide_eq_true (by first | (with_reducible assumption) | assumption)
                          have q127 : x8_3 < (((rd_T62 [a0] 0).f1).length : Int) := of_decide_eq_true (by first | (with_reducible assumption) | assumption)
                          obtain ⟨ad127, A127_2, c127_2, e127, hx127_0, hx127_1, hx127_2, hl127_2, hi127_2⟩ := at_T119 HR123_1.out x8_3 p127 q127
                          obtain rfl : ad124 = ad127 := (by injection e127)
                          have HR127_2 := Aside0.mk hi127_2
                          have HC127_2 := Aside0.mk hl127_2
                          clear hi127_2 hl127_2
                          replace p127 := eq_true p127
                          replace q127 := eq_true q127
                          have ea_ := Option.some.inj (hx124_2.symm.trans hx127_2)
                          injection ea_ with ea_ en_ ec_
                          subst ea_
                          subst ec_
                          clear en_
                          have p128 : 0 ≤ (x8_3 : Int) := of_decide_eq_true (by first | (with_reducible assumption) | assumption)
                          have q128 : x8_3 < (((rd_T62 [a1] 0).f1).length : Int) := of_decide_eq_true (by first | (with_reducible assumption) | assumption)
                          obtain ⟨ad128, A128_2, c128_2, e128, hx128_0, hx128_1, hx128_2, hl128_2, hi128_2⟩ := at_T119 HR125_1.out x8_3 p128 q128
                          obtain rfl : ad126 = ad128 := (by injection e128)
                          have HR128_2 := Aside0.mk hi128_2
                          have HC128_2 := Aside0.mk hl128_2
                          clear hi128_2 hl128_2
                          replace p128 := eq_true p128
                          replace q128 := eq_true q128
                          have ea_ := Option.some.inj (hx126_2.symm.trans hx128_2)
                          injection ea_ with ea_ en_ ec_
                          subst ea_
                          subst ec_
                          clear en_
                          go_wp2
                          repeat (go_quiet (fail); try go_wp2)
                          go_ret
                          exact ⟨by first | rfl | (simp; done) | (simp [*]; done), by repeat (first | exact Drawn0.refl _ | apply Drawn0.step)⟩
                      · rw [if_neg c17] at H
                        exact absurd H (by simp)
                    · rw [if_neg c16] at H
                      exact absurd H (by simp)
                  · rw [if_neg c15] at H
                    have c15b0 : decide (x8_3 < (((rd_T62 [a0] 0).f1).length : Int)) = false := decide_eq_false c15
                    clear c15
                    obtain rfl := Option.some.inj H
                    have p123 : 0 ≤ (0 : Int) := (by omega)
                    have q123 : 0 < ([a0].length : Int) := (by simp)
                    obtain ⟨ad123, A123_0, c123_0, A123_1, c123_1, e123, hx123_0, hx123_1, hl123_0, hi123_0, hl123_1, hi123_1⟩ := at_T62 HR0.out 0 p123 q123
                    obtain rfl : adp0 = ad123 := (by injection e123)
                    have qi123 : (0 < [a0].length) = True := eq_true (by omega)
                    (try rw [show ((0 : Int)).toNat = 0 from rfl] at hx123_0)
                    (try rw [show 0 * 2 = 0 from rfl] at hx123_0)
                    (try rw [Addr.add_zero'] at hx123_0)
                    (try rw [show ((0 : Int)).toNat = 0 from rfl] at hx123_1)
                    (try rw [show 0 * 2 = 0 from rfl] at hx123_1)
                    (try rw [Addr.add_zero'] at hx123_1)
                    have HR123_0 := Aside0.mk hi123_0
                    have HC123_0 := Aside0.mk hl123_0
                    clear hi123_0 hl123_0
                    have HR123_1 := Aside0.mk hi123_1
                    have HC123_1 := Aside0.mk hl123_1
                    clear hi123_1 hl123_1
                    replace p123 := eq_true p123
                    replace q123 := eq_true q123
                    go_wp2
                    repeat (go_quiet (fail); try go_wp2)
                    go_ret
                    exact ⟨by first | rfl | (simp; done) | (simp [*]; done), by repeat (first | exact Drawn0.refl _ | apply Drawn0.step)⟩

/-! ### spec_SameGraphs: function 41 -/
def spec_SameGraphs.f (k : Nat) (l0_0 : List (S115)) (l0_1 : List (S119)) (l1_0 : List (S115)) (l1_1 : List (S119)) : Option (Bool) := (spec_l6Same.f k (⟨l0_0, l0_1⟩ : S62) (⟨l1_0, l1_1⟩ : S62)).bind fun t132 => (some t132)
theorem spec_SameGraphs.mono : ∀ a0 a1 a2 a3 k, LeO (spec_SameGraphs.f k a0 a1 a2 a3) (spec_SameGraphs.f (k + 1) a0 a1 a2 a3) := by
  intro a0 a1 a2 a3 k
  unfold spec_SameGraphs.f
  repeat' first
      | (with_reducible exact spec_l6Same.mono _ _ _)
      | (with_reducible exact LeO.refl _)
      | (with_reducible exact LeO.none _)
      | (with_reducible refine LeO.ite ?_ ?_)
      | (with_reducible refine LeO.bind ?_ (fun _ => ?_))
      | exact spec_l6Same.mono _ _ _
      | exact LeO.none _
      | refine LeO.ite ?_ ?_
      | refine LeO.bind ?_ (fun _ => ?_)
set_option maxHeartbeats 8000000 in
set_option maxRecDepth 100000 in
theorem spec_SameGraphs.calls (k : Nat) (A0_0 : Option Addr) (c0_0 : Nat) (l0_0 : List (S115)) (A0_1 : Option Addr) (c0_1 : Nat) (l0_1 : List (S119)) (A1_0 : Option Addr) (c1_0 : Nat) (l1_0 : List (S115)) (A1_1 : Option Addr) (c1_1 : Nat) (l1_1 : List (S119)) (r : Bool) (w : World) (hr0_0 : Kd.C k115 w A0_0 l0_0.length l0_0) (hc0_0 : l0_0.length ≤ c0_0) (hr0_1 : Kd.C k119 w A0_1 l0_1.length l0_1) (hc0_1 : l0_1.length ≤ c0_1) (hr1_0 : Kd.C k115 w A1_0 l1_0.length l1_0) (hc1_0 : l1_0.length ≤ c1_0) (hr1_1 : Kd.C k119 w A1_1 l1_1.length l1_1) (hc1_1 : l1_1.length ≤ c1_1) (h : spec_SameGraphs.f k l0_0 l0_1 l1_0 l1_1 = some r) :
    Calls Try.prog 41 #[.agg #[.slice A0_0 l0_0.length c0_0, .slice A0_1 l0_1.length c0_1], .agg #[.slice A1_0 l1_0.length c1_0, .slice A1_1 l1_1.length c1_1]] w fun e w' => e = .returned (.bool r) ∧ Below w.heap.size w w' := by
  have hu62 := Try.underlying62
  have HR0_0 := Aside0.mk hr0_0
  have HC0_0 := Aside0.mk hc0_0
  clear hr0_0 hc0_0
  have HR0_1 := Aside0.mk hr0_1
  have HC0_1 := Aside0.mk hc0_1
  clear hr0_1 hc0_1
  have HR1_0 := Aside0.mk hr1_0
  have HC1_0 := Aside0.mk hc1_0
  clear hr1_0 hc1_0
  have HR1_1 := Aside0.mk hr1_1
  have HC1_1 := Aside0.mk hc1_1
  clear hr1_1 hc1_1
  have HB := Aside0.mk (Below.refl w.heap.size w)
  have H : ((spec_l6Same.f k (⟨l0_0, l0_1⟩ : S62) (⟨l1_0, l1_1⟩ : S62)).bind fun t132 => (some t132)) = some r := h
  clear h
  replace H := Option.bind_eq_some_iff.mp H
  obtain ⟨t132, A30, H⟩ := H
  replace H : (some t132) = some r := H
  have A3 := Aside0.mk A30
  clear A30
  obtain rfl := Option.some.inj H
  go_enter Try.func41, Try.ntmps41
  go_wp2_with (first | ((with_reducible refine gate_dst (N := 2) rfl ?_); refine box_event ?hg (N := 2) ?hd (cs := #[.slice A0_0 l0_0.length c0_0, .slice A0_1 l0_1.length c0_1]) (t := 62) ?hr ?_; (case hd => rfl); (case hg => rfl); (case hr => first | (go_simp; done) | (go_simp; rfl)); intro gb130 hg w4 hbox hb; have n0_ := Aside0.mk (below_step (by repeat (first | (with_reducible first | exact HB.out | apply below_alloc | apply pw_below_drewN | apply below_drew1) | exact HB.out)) hb); have n1_ := Aside0.mk (hbox); have n2_ := Aside0.mk ((by rw [hg]; exact (below_size (by repeat (first | (with_reducible first | exact HB.out | apply below_alloc | apply pw_below_drewN | apply below_drew1) | exact HB.out))) : w.heap.size ≤ gb130)); have n3_ := Aside0.mk ((by rw [hg]; exact (below_size (by repeat (first | (with_reducible first | exact HB.out | apply below_alloc | apply pw_below_drewN | apply below_drew1) | exact HB.out))) : w.heap.size ≤ gb130)); clear HB; have HB := n0_; have BK130 := n1_; have GW130 := n2_; have GE130 := n3_; clear n0_ n1_ n2_ n3_; clear hb hbox hg) | ((with_reducible refine gate_dst (N := 3) rfl ?_); refine box_event ?hg (N := 3) ?hd (cs := #[.slice A1_0 l1_0.length c1_0, .slice A1_1 l1_1.length c1_1]) (t := 62) ?hr ?_; (case hd => rfl); (case hg => rfl); (case hr => first | (go_simp; done) | (go_simp; rfl)); intro gb131 hg w5 hbox hb; have n0_ := Aside0.mk (blk_below (g := gb130) (o := .cells #[.slice A0_0 l0_0.length c0_0, .slice A0_1 l0_1.length c0_1] 62 (0, 0)) (by (with_reducible repeat (first | refine blk_drewN ?_ _ | refine blk_drew ?_ | refine blk_alloc ?_ _)); exact BK130.out) hb); have n1_ := Aside0.mk (below_step (by repeat (first | (with_reducible first | exact HB.out | apply below_alloc | apply pw_below_drewN | apply below_drew1 | refine below_set ?_ GE130.out) | exact HB.out)) hb); have n2_ := Aside0.mk (hbox); have n3_ := Aside0.mk ((by rw [hg]; exact (below_size (by repeat (first | (with_reducible first | exact HB.out | apply below_alloc | apply pw_below_drewN | apply below_drew1 | refine below_set ?_ GE130.out) | exact HB.out))) : w.heap.size ≤ gb131)); have n4_ := Aside0.mk ((by rw [hg]; exact (below_size (by repeat (first | (with_reducible first | exact HB.out | apply below_alloc | apply pw_below_drewN | apply below_drew1 | refine below_set ?_ GE130.out) | exact HB.out))) : w.heap.size ≤ gb131)); have n5_ := Aside0.mk ((by rw [hg]; exact Nat.ne_of_lt (blk_lt (g := gb130) (o := .cells #[.slice A0_0 l0_0.length c0_0, .slice A0_1 l0_1.length c0_1] 62 (0, 0)) (by (with_reducible repeat (first | refine blk_drewN ?_ _ | refine blk_drew ?_ | refine blk_alloc ?_ _)); exact BK130.out)) : gb130 ≠ gb131)); have n6_ := Aside0.mk ((by rw [hg]; exact Nat.ne_of_gt (blk_lt (g := gb130) (o := .cells #[.slice A0_0 l0_0.length c0_0, .slice A0_1 l0_1.length c0_1] 62 (0, 0)) (by (with_reducible repeat (first | refine blk_drewN ?_ _ | refine blk_drew ?_ | refine blk_alloc ?_ _)); exact BK130.out)) : gb131 ≠ gb130)); clear BK130; clear HB; have BK130 := n0_; have HB := n1_; have BK131 := n2_; have GW131 := n3_; have GE131 := n4_; have NB130_131 := n5_; have NB131_130 := n6_; clear n0_ n1_ n2_ n3_ n4_ n5_ n6_; clear hb hbox hg) | ((with_reducible refine gate_callee (f := 81) rfl ?_); refine goesL_ (some 5) rfl rfl Try.func81 (by kernel_rfl) rfl #[.pointer (some ⟨gb130, 0, none⟩), .pointer (some ⟨gb131, 0, none⟩)] rfl (by (try simp only [List.map_toArray, List.map_cons, List.map_nil]); first | done | rfl | (simp only [List.length_drop, List.length_take]; rfl)) ?_; (with_reducible refine (spec_l6Same.calls k _ (⟨l0_0, l0_1⟩ : S62) _ (⟨l1_0, l1_1⟩ : S62) t132 _ ?side1 ?side2 A3.out).mono ?_); (case side1 => exact C_block (by (with_reducible repeat (first | refine blk_drewN ?_ _ | refine blk_drew ?_ | refine blk_alloc ?_ _)); exact BK130.out) (k62_mk _ _ (by exact HC0_0.out) (by repeat (first | exact (Kd.C_below HR0_0.out HB.out) | (with_reducible refine Kd.C_alloc ?_ _) | (with_reducible refine Kd.C_drewN ?_ _) | (with_reducible refine Kd.C_drew ?_))) (by exact HC0_1.out) (by repeat (first | exact (Kd.C_below HR0_1.out HB.out) | (with_reducible refine Kd.C_alloc ?_ _) | (with_reducible refine Kd.C_drewN ?_ _) | (with_reducible refine Kd.C_drew ?_))))); (case side2 => exact C_block (by (with_reducible repeat (first | refine blk_drewN ?_ _ | refine blk_drew ?_ | refine blk_alloc ?_ _)); exact BK131.out) (k62_mk _ _ (by exact HC1_0.out) (by repeat (first | exact (Kd.C_below HR1_0.out HB.out) | (with_reducible refine Kd.C_alloc ?_ _) | (with_reducible refine Kd.C_drewN ?_ _) | (with_reducible refine Kd.C_drew ?_))) (by exact HC1_1.out) (by repeat (first | exact (Kd.C_below HR1_1.out HB.out) | (with_reducible refine Kd.C_alloc ?_ _) | (with_reducible refine Kd.C_drewN ?_ _) | (with_reducible refine Kd.C_drew ?_))))); rintro e w' ⟨rfl, ⟨nd, rfl⟩⟩; refine ⟨_, rfl, ?_⟩))
  go_ret
  exact ⟨by first | rfl | (simp [errW_none, errW_some] <;> rfl) | (simp [*, errW_none, errW_some] <;> rfl), by repeat (first | (with_reducible first | exact HB.out | apply below_alloc | apply pw_below_drewN | apply below_drew1 | refine below_set ?_ GE130.out | refine below_set ?_ GE131.out) | exact HB.out)⟩

/-! ### laws_toNode: function 60 -/
def laws_toNode.f (a0_0 : Int) (a0_1 : Int) (a0_2 : Int) (a0_3 : Int) : Option (Int × Int × Int × Int) := some (a0_0, a0_1, a0_2, a0_3)
set_option maxHeartbeats 8000000 in
set_option maxRecDepth 100000 in
theorem laws_toNode.calls (a0_0 : Int) (a0_1 : Int) (a0_2 : Int) (a0_3 : Int) (r1 : Int) (r2 : Int) (r3 : Int) (r4 : Int) (w : World) (h : laws_toNode.f a0_0 a0_1 a0_2 a0_3 = some (r1, r2, r3, r4)) :
    Calls Try.prog 60 #[.agg #[.int .i64 a0_0, .int .i64 a0_1, .int .i64 a0_2, .int .i64 a0_3]] w fun e w' => e = .returned (.agg #[.int .i64 r1, .int .i64 r2, .int .i64 r3, .int .i64 r4]) ∧ Below w.heap.size w w' := by
  have hu79 := Try.underlying79
  have hu77 := Try.underlying77
  have HB := Aside0.mk (Below.refl w.heap.size w)
  have H : (some (a0_0, a0_1, a0_2, a0_3)) = some (r1, r2, r3, r4) := h
  clear h
  simp only [Option.some.injEq, Prod.mk.injEq] at H
  obtain ⟨rfl, rfl, rfl, rfl⟩ := H
  go_enter Try.func60, Try.ntmps60
  go_wp2_with (first | ((with_reducible refine gate_dst (N := 1) rfl ?_); refine box_event ?hg (N := 1) ?hd (cs := #[.int .i64 a0_0, .int .i64 a0_1, .int .i64 a0_2, .int .i64 a0_3]) (t := 79) ?hr ?_; (case hd => rfl); (case hg => rfl); (case hr => first | (go_simp; done) | (go_simp; rfl)); intro gb133 hg w2 hbox hb; have n0_ := Aside0.mk (below_step (by repeat (first | (with_reducible first | exact HB.out | apply below_alloc | apply pw_below_drewN | apply below_drew1) | exact HB.out)) hb); have n1_ := Aside0.mk (hbox); have n2_ := Aside0.mk ((by rw [hg]; exact (below_size (by repeat (first | (with_reducible first | exact HB.out | apply below_alloc | apply pw_below_drewN | apply below_drew1) | exact HB.out))) : w.heap.size ≤ gb133)); have n3_ := Aside0.mk ((by rw [hg]; exact (below_size (by repeat (first | (with_reducible first | exact HB.out | apply below_alloc | apply pw_below_drewN | apply below_drew1) | exact HB.out))) : w.heap.size ≤ gb133)); clear HB; have HB := n0_; have BK133 := n1_; have GW133 := n2_; have GE133 := n3_; clear n0_ n1_ n2_ n3_; clear hb hbox hg) | ((with_reducible refine gate_dst (N := 2) rfl ?_); refine box_event ?hg (N := 2) ?hd (cs := #[.int .i64 0, .int .i64 0, .int .i64 0, .int .i64 0]) (t := 77) ?hr ?_; (case hd => rfl); (case hg => rfl); (case hr => first | (go_simp; done) | (go_simp; rfl)); intro gb134 hg w3 hbox hb; have n0_ := Aside0.mk (blk_below (g := gb133) (o := .cells #[.int .i64 a0_0, .int .i64 a0_1, .int .i64 a0_2, .int .i64 a0_3] 79 (0, 0)) (by (with_reducible repeat (first | refine blk_drewN ?_ _ | refine blk_drew ?_ | refine blk_alloc ?_ _)); exact BK133.out) hb); have n1_ := Aside0.mk (below_step (by repeat (first | (with_reducible first | exact HB.out | apply below_alloc | apply pw_below_drewN | apply below_drew1 | refine below_set ?_ GE133.out) | exact HB.out)) hb); have n2_ := Aside0.mk (hbox); have n3_ := Aside0.mk ((by rw [hg]; exact (below_size (by repeat (first | (with_reducible first | exact HB.out | apply below_alloc | apply pw_below_drewN | apply below_drew1 | refine below_set ?_ GE133.out) | exact HB.out))) : w.heap.size ≤ gb134)); have n4_ := Aside0.mk ((by rw [hg]; exact (below_size (by repeat (first | (with_reducible first | exact HB.out | apply below_alloc | apply pw_below_drewN | apply below_drew1 | refine below_set ?_ GE133.out) | exact HB.out))) : w.heap.size ≤ gb134)); have n5_ := Aside0.mk ((by rw [hg]; exact Nat.ne_of_lt (blk_lt (g := gb133) (o := .cells #[.int .i64 a0_0, .int .i64 a0_1, .int .i64 a0_2, .int .i64 a0_3] 79 (0, 0)) (by (with_reducible repeat (first | refine blk_drewN ?_ _ | refine blk_drew ?_ | refine blk_alloc ?_ _)); exact BK133.out)) : gb133 ≠ gb134)); have n6_ := Aside0.mk ((by rw [hg]; exact Nat.ne_of_gt (blk_lt (g := gb133) (o := .cells #[.int .i64 a0_0, .int .i64 a0_1, .int .i64 a0_2, .int .i64 a0_3] 79 (0, 0)) (by (with_reducible repeat (first | refine blk_drewN ?_ _ | refine blk_drew ?_ | refine blk_alloc ?_ _)); exact BK133.out)) : gb134 ≠ gb133)); clear BK133; clear HB; have BK133 := n0_; have HB := n1_; have BK134 := n2_; have GW134 := n3_; have GE134 := n4_; have NB133_134 := n5_; have NB134_133 := n6_; clear n0_ n1_ n2_ n3_ n4_ n5_ n6_; clear hb hbox hg) | ((with_reducible refine gate_dst (N := 3) rfl ?_); refine box_event ?hg (N := 3) ?hd (cs := #[.int .i64 0, .int .i64 0, .int .i64 0, .int .i64 0]) (t := 77) ?hr ?_; (case hd => rfl); (case hg => rfl); (case hr => first | (go_simp; done) | (go_simp; rfl)); intro gb135 hg w4 hbox hb; have n0_ := Aside0.mk (blk_below (g := gb133) (o := .cells #[.int .i64 a0_0, .int .i64 a0_1, .int .i64 a0_2, .int .i64 a0_3] 79 (0, 0)) (by (with_reducible repeat (first | refine blk_drewN ?_ _ | refine blk_drew ?_ | refine blk_alloc ?_ _)); exact BK133.out) hb); have n1_ := Aside0.mk (blk_below (g := gb134) (o := .cells #[.int .i64 0, .int .i64 0, .int .i64 0, .int .i64 0] 77 (0, 0)) (by (with_reducible repeat (first | refine blk_drewN ?_ _ | refine blk_drew ?_ | refine blk_alloc ?_ _)); exact BK134.out) hb); have n2_ := Aside0.mk (below_step (by repeat (first | (with_reducible first | exact HB.out | apply below_alloc | apply pw_below_drewN | apply below_drew1 | refine below_set ?_ GE133.out | refine below_set ?_ GE134.out) | exact HB.out)) hb); have n3_ := Aside0.mk (hbox); have n4_ := Aside0.mk ((by rw [hg]; exact (below_size (by repeat (first | (with_reducible first | exact HB.out | apply below_alloc | apply pw_below_drewN | apply below_drew1 | refine below_set ?_ GE133.out | refine below_set ?_ GE134.out) | exact HB.out))) : w.heap.size ≤ gb135)); have n5_ := Aside0.mk ((by rw [hg]; exact (below_size (by repeat (first | (with_reducible first | exact HB.out | apply below_alloc | apply pw_below_drewN | apply below_drew1 | refine below_set ?_ GE133.out | refine below_set ?_ GE134.out) | exact HB.out))) : w.heap.size ≤ gb135)); have n6_ := Aside0.mk ((by rw [hg]; exact Nat.ne_of_lt (blk_lt (g := gb133) (o := .cells #[.int .i64 a0_0, .int .i64 a0_1, .int .i64 a0_2, .int .i64 a0_3] 79 (0, 0)) (by (with_reducible repeat (first | refine blk_drewN ?_ _ | refine blk_drew ?_ | refine blk_alloc ?_ _)); exact BK133.out)) : gb133 ≠ gb135)); have n7_ := Aside0.mk ((by rw [hg]; exact Nat.ne_of_gt (blk_lt (g := gb133) (o := .cells #[.int .i64 a0_0, .int .i64 a0_1, .int .i64 a0_2, .int .i64 a0_3] 79 (0, 0)) (by (with_reducible repeat (first | refine blk_drewN ?_ _ | refine blk_drew ?_ | refine blk_alloc ?_ _)); exact BK133.out)) : gb135 ≠ gb133)); have n8_ := Aside0.mk ((by rw [hg]; exact Nat.ne_of_lt (blk_lt (g := gb134) (o := .cells #[.int .i64 0, .int .i64 0, .int .i64 0, .int .i64 0] 77 (0, 0)) (by (with_reducible repeat (first | refine blk_drewN ?_ _ | refine blk_drew ?_ | refine blk_alloc ?_ _)); exact BK134.out)) : gb134 ≠ gb135)); have n9_ := Aside0.mk ((by rw [hg]; exact Nat.ne_of_gt (blk_lt (g := gb134) (o := .cells #[.int .i64 0, .int .i64 0, .int .i64 0, .int .i64 0] 77 (0, 0)) (by (with_reducible repeat (first | refine blk_drewN ?_ _ | refine blk_drew ?_ | refine blk_alloc ?_ _)); exact BK134.out)) : gb135 ≠ gb134)); clear BK133; clear BK134; clear HB; have BK133 := n0_; have BK134 := n1_; have HB := n2_; have BK135 := n3_; have GW135 := n4_; have GE135 := n5_; have NB133_135 := n6_; have NB135_133 := n7_; have NB134_135 := n8_; have NB135_134 := n9_; clear n0_ n1_ n2_ n3_ n4_ n5_ n6_ n7_ n8_ n9_; clear hb hbox hg; have hnb5 := NB133_134.out; have hnc5 := NB134_133.out; have hnb6 := NB133_135.out; have hnc6 := NB135_133.out; have hcz7_0 : w4.cell? ⟨gb133, 0, none⟩ = some (.int .i64 a0_0) := (blk_cell BK133.out 0).trans rfl; have hcz7_1 : w4.cell? ⟨gb133, 1, none⟩ = some (.int .i64 a0_1) := (blk_cell BK133.out 1).trans rfl; have hcz7_2 : w4.cell? ⟨gb133, 2, none⟩ = some (.int .i64 a0_2) := (blk_cell BK133.out 2).trans rfl; have hcz7_3 : w4.cell? ⟨gb133, 3, none⟩ = some (.int .i64 a0_3) := (blk_cell BK133.out 3).trans rfl; have hfz7_0 := blk_frozen BK133.out 0; have hfz7_1 := blk_frozen BK133.out 1; have hfz7_2 := blk_frozen BK133.out 2; have hfz7_3 := blk_frozen BK133.out 3; have hnb8 := NB135_134.out; have hnc8 := NB134_135.out; have hcz9_0 : w4.cell? ⟨gb135, 0, none⟩ = some (.int .i64 0) := (blk_cell BK135.out 0).trans rfl; have hcz9_1 : w4.cell? ⟨gb135, 1, none⟩ = some (.int .i64 0) := (blk_cell BK135.out 1).trans rfl; have hcz9_2 : w4.cell? ⟨gb135, 2, none⟩ = some (.int .i64 0) := (blk_cell BK135.out 2).trans rfl; have hcz9_3 : w4.cell? ⟨gb135, 3, none⟩ = some (.int .i64 0) := (blk_cell BK135.out 3).trans rfl; have hfz9_0 := blk_frozen BK135.out 0; have hfz9_1 := blk_frozen BK135.out 1; have hfz9_2 := blk_frozen BK135.out 2; have hfz9_3 := blk_frozen BK135.out 3; have hcz10_0 : w4.cell? ⟨gb134, 0, none⟩ = some (.int .i64 0) := (blk_cell BK134.out 0).trans rfl; have hcz10_1 : w4.cell? ⟨gb134, 1, none⟩ = some (.int .i64 0) := (blk_cell BK134.out 1).trans rfl; have hcz10_2 : w4.cell? ⟨gb134, 2, none⟩ = some (.int .i64 0) := (blk_cell BK134.out 2).trans rfl; have hcz10_3 : w4.cell? ⟨gb134, 3, none⟩ = some (.int .i64 0) := (blk_cell BK134.out 3).trans rfl; have hfz10_0 := blk_frozen BK134.out 0; have hfz10_1 := blk_frozen BK134.out 1; have hfz10_2 := blk_frozen BK134.out 2; have hfz10_3 := blk_frozen BK134.out 3))
  refine bodyPost_ret (results_cell_row rfl _ _ gb134 77 #[.int .i64 a0_0, .int .i64 a0_1, .int .i64 a0_2, .int .i64 a0_3] (0, 0) _ rfl (by (with_reducible repeat (first | refine blk_drewN ?_ _ | refine blk_drew ?_ | refine blk_alloc ?_ _)); refine blk_put (cs := #[.int .i64 a0_0, .int .i64 a0_1, .int .i64 a0_2, .int .i64 0]) ?_ 3 _ rfl; (with_reducible repeat (first | refine blk_drewN ?_ _ | refine blk_drew ?_ | refine blk_alloc ?_ _)); refine blk_put (cs := #[.int .i64 a0_0, .int .i64 a0_1, .int .i64 0, .int .i64 0]) ?_ 2 _ rfl; (with_reducible repeat (first | refine blk_drewN ?_ _ | refine blk_drew ?_ | refine blk_alloc ?_ _)); refine blk_put (cs := #[.int .i64 a0_0, .int .i64 0, .int .i64 0, .int .i64 0]) ?_ 1 _ rfl; (with_reducible repeat (first | refine blk_drewN ?_ _ | refine blk_drew ?_ | refine blk_alloc ?_ _)); refine blk_put (cs := #[.int .i64 0, .int .i64 0, .int .i64 0, .int .i64 0]) ?_ 0 _ rfl; (with_reducible repeat (first | refine blk_drewN ?_ _ | refine blk_drew ?_ | refine blk_alloc ?_ _)); refine blk_far ?_ NB134_135.out _; (with_reducible repeat (first | refine blk_drewN ?_ _ | refine blk_drew ?_ | refine blk_alloc ?_ _)); refine blk_far ?_ NB134_135.out _; (with_reducible repeat (first | refine blk_drewN ?_ _ | refine blk_drew ?_ | refine blk_alloc ?_ _)); refine blk_far ?_ NB134_135.out _; (with_reducible repeat (first | refine blk_drewN ?_ _ | refine blk_drew ?_ | refine blk_alloc ?_ _)); refine blk_far ?_ NB134_135.out _; (with_reducible repeat (first | refine blk_drewN ?_ _ | refine blk_drew ?_ | refine blk_alloc ?_ _)); exact BK134.out) Try.underlying77 rfl (by kernel_rfl)) rfl ?_
  exact ⟨by first | rfl | (simp [errW_none, errW_some] <;> rfl) | (simp [*, errW_none, errW_some] <;> rfl), by repeat (first | (with_reducible first | exact HB.out | apply below_alloc | apply pw_below_drewN | apply below_drew1 | refine below_set ?_ GE133.out | refine below_set ?_ GE134.out | refine below_set ?_ GE135.out) | exact HB.out)⟩

end Go.Proofs.Ytjlcajhlggoleaa.G
