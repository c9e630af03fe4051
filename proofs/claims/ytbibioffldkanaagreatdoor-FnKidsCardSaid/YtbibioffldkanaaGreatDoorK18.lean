-- Written by a program of this session's own (xp.py) for this seat.
import Derived.Test.YtbibioffldkanaaGreatDoorK0
namespace Go.Proofs.YtbibioffldkanaaGreatDoor.K
open Go.RowKit Go.Proofs.YtbibioffldkanaaGreatDoorW.PrintWords Go.Proofs.YtbibioffldkanaaGreatDoorW.PrintLast Go.Proofs.YtbibioffldkanaaGreatDoorW.PrintMore
attribute [local go_sem] Instr.field asAgg
attribute [local go_sem] lS lQ mY mX lm lq lT lU   -- for this text's walks alone
set_option maxHeartbeats 8000000
set_option maxRecDepth 100000
set_option linter.unusedVariables false
set_option linter.unusedSimpArgs false

/-! ### jW: function 75 -/
def jW.f (a0 : ByteArray) (a1 : Int) (a2 : ByteArray) : Option (Bool) := if (wrap64 (a1 + (a2.size : Int))) ≤ (a0.size : Int) then (if 0 ≤ a1 then (if a1 ≤ (wrap64 (a1 + (a2.size : Int))) then (some ((a0.extract (a1 : Int).toNat ((wrap64 (a1 + (a2.size : Int))) : Int).toNat).toList == a2.toList)) else (none)) else (none)) else (some false)
theorem jW.calls (a0 : ByteArray) (a1 : Int) (a2 : ByteArray) (r : Bool) (w : World) (h : jW.f a0 a1 a2 = some r) :
    Calls Tryz.prog 75 #[.string a0, .int .i64 a1, .string a2] w fun e w' => e = .returned (.bool r) ∧ jP w w' := by
 have H : (if (wrap64 (a1 + (a2.size : Int))) ≤ (a0.size : Int) then (if 0 ≤ a1 then (if a1 ≤ (wrap64 (a1 + (a2.size : Int))) then (some ((a0.extract (a1 : Int).toNat ((wrap64 (a1 + (a2.size : Int))) : Int).toNat).toList == a2.toList)) else (none)) else (none)) else (some false)) = some r := h; clear h; replace H := id_ H; obtain ⟨aU, -, H⟩ | ⟨aU, -, H⟩ := H
 ·replace H := kq_ H; obtain ⟨a7, a8, -, H⟩ := H
  ·replace H := kq_ H; obtain ⟨a9, ba, c6, H⟩ := H
   ·have bb := eq_true (of_decide_eq_true y1_ : (wrap64 (a1 + (a2.size : Int))) ≤ (a0.size : Int)); obtain rfl := Option.some.inj H; go_enter Tryz.func75, Tryz.ntmps75
    go_wp2
    go_ret
    exact ⟨y3_, y5_⟩
 ·obtain rfl := Option.some.inj H; go_enter Tryz.func75, Tryz.ntmps75
  go_wp2
  go_ret
  exact ⟨y3_, y5_⟩

/-! ### jd: function 76 -/
def jd.l0 : Nat → ByteArray → Int → Int → Int → Option (Int × Int)
  | 0, _, _, _, _ => none
  | k + 1, x0, x1, x6, x7 => if x7 < (x0.size : Int) then (if x7 < (wrap64 (x1 + 5)) then (if 0 ≤ x7 then (if (bt x0 x7) ≥ 48 then (if (bt x0 x7) ≤ 57 then (jd.l0 k x0 x1 (wrap64 ((wrap64 (x6 * 10)) + (((bt x0 x7) - 48) % 256))) (wrap64 (x7 + 1))) else (if x7 = (wrap64 (x1 + 2)) then (some (0, 0)) else (if x7 ≥ (x0.size : Int) then (some (0, 0)) else (if (bt x0 x7) = 59 then (if x6 < 32 then (some (0, 0)) else (if x6 > 126 then (some (0, 0)) else (some ((x6) % 256, wrap64 ((wrap64 (x7 + 1)) - x1))))) else (some (0, 0)))))) else (if x7 = (wrap64 (x1 + 2)) then (some (0, 0)) else (if x7 ≥ (x0.size : Int) then (some (0, 0)) else (if (bt x0 x7) = 59 then (if x6 < 32 then (some (0, 0)) else (if x6 > 126 then (some (0, 0)) else (some ((x6) % 256, wrap64 ((wrap64 (x7 + 1)) - x1))))) else (some (0, 0)))))) else (none)) else (if x7 = (wrap64 (x1 + 2)) then (some (0, 0)) else (if x7 ≥ (x0.size : Int) then (some (0, 0)) else (if 0 ≤ x7 then (if (bt x0 x7) = 59 then (if x6 < 32 then (some (0, 0)) else (if x6 > 126 then (some (0, 0)) else (some ((x6) % 256, wrap64 ((wrap64 (x7 + 1)) - x1))))) else (some (0, 0))) else (none))))) else (if x7 = (wrap64 (x1 + 2)) then (some (0, 0)) else (if x7 ≥ (x0.size : Int) then (some (0, 0)) else (if 0 ≤ x7 then (none) else (none))))
def jd.f (k : Nat) (a0 : ByteArray) (a1 : Int) : Option (Int × Int) := jd.l0 k a0 a1 0 (wrap64 (a1 + 2))
theorem jd.iQ : ∀ k, (∀ y0 y1 y2 y3, LeO (jd.l0 k y0 y1 y2 y3) (jd.l0 (k + 1) y0 y1 y2 y3))
  | 0 => fun _ _ _ _ r h => by simp [jd.l0] at h
  | k + 1 => by
    have aV := jd.iQ k
    · intro y0 y1 y2 y3
      unfold jd.l0
      repeat' (with_reducible first | exact aV _ _ _ _ | exact LeO.refl _ | exact LeO.none _ | refine LeO.ite ?_ ?_ | refine LeO.bind ?_ (fun _ => ?_))
theorem jd.mono : ∀ a0 a1 k, LeO (jd.f k a0 a1) (jd.f (k + 1) a0 a1) := by
  intro a0 a1 k
  have aV := jd.iQ k
  unfold jd.f
  repeat' (with_reducible first | exact aV _ _ _ _ | exact LeO.refl _ | exact LeO.none _ | refine LeO.ite ?_ ?_ | refine LeO.bind ?_ (fun _ => ?_))
theorem jd.calls (k : Nat) (a0 : ByteArray) (a1 : Int) (r1 : Int) (r2 : Int) (w : World) (h : jd.f k a0 a1 = some (r1, r2)) :
    Calls Tryz.prog 76 #[.string a0, .int .i64 a1] w fun e w' => e = .returned (.tuple #[.int .u8 r1, .int .i64 r2]) ∧ jP w w' := by
 have H : (jd.l0 k a0 a1 0 (wrap64 (a1 + 2))) = some (r1, r2) := h; clear h; have H' := a_ H; clear H; go_enter Tryz.func76, Tryz.ntmps76
 go_wp2
 go_loopg [6, 7] k (fun kq v6 v7 w' => ∃ (av : Int) (ab : Int), v6 = .int .i64 av ∧ v7 = .int .i64 ab ∧ fD (jd.l0 kq a0 a1 av ab = some (r1, r2)) ∧ fD (kq ≤ k) ∧ jP w w')
 case atStart => exact ⟨(0), (wrap64 (a1 + 2)), y3_, y3_, H', ⟨Nat.le_refl _⟩, y5_⟩
 case round =>
  clear H'; obtain ⟨av, ab, rfl, rfl, HA, HK1, ⟨m1, rfl⟩⟩ := hrel; cases gk with
  | zero => exact absurd HA.out (by simp [jd.l0])
  | succ k1 =>
   have H := HA.out; clear HA; simp only [jd.l0] at H; replace H := id_ H; obtain ⟨az, -, H⟩ | ⟨az, -, H⟩ := H; replace H := id_ H; obtain ⟨ao, -, H⟩ | ⟨ao, -, H⟩ := H; replace H := kd_ H; obtain ⟨am, -, H⟩ := H; replace H := tC H; obtain ⟨ap, -, H⟩ | ⟨ap, -, H⟩ := H; replace H := id_ H; obtain ⟨an, -, H⟩ | ⟨an, -, H⟩ := H; have H' := a_ H; clear H; obtain ⟨aa, ac, aq, aW⟩ := t4_; rotate_left; replace H := ie_ H; obtain ⟨ad, ar, -, H⟩ | ⟨ad, ar, bc, H⟩ := H; replace H := j2_ H; obtain ⟨rfl, rfl⟩ := H; obtain ⟨aa, ac, aX⟩ := t3_; rotate_left; replace H := tC H; obtain ⟨ae, -, H⟩ | ⟨ae, -, H⟩ := H; replace H := j2_ H; obtain ⟨rfl, rfl⟩ := H; obtain ⟨aa, ac, aY⟩ := t3_; rotate_left; replace H := ie_ H; obtain ⟨af, aA, -, H⟩ | ⟨af, aA, bd, H⟩ := H; replace H := id_ H; obtain ⟨au, -, H⟩ | ⟨au, -, H⟩ := H; replace H := j2_ H; obtain ⟨rfl, rfl⟩ := H; obtain ⟨aa, ac, aq, aZ⟩ := t4_; rotate_left; replace H := qU H; obtain ⟨aB, -, H⟩ | ⟨aB, -, H⟩ := H; replace H := j2_ H; obtain ⟨rfl, rfl⟩ := H; obtain ⟨aa, ac, aq, a3⟩ := t4_; rotate_left
   replace H := j2_ H; obtain ⟨rfl, rfl⟩ := H; obtain ⟨aa, ac, aq, a4⟩ := t4_; rotate_left; replace H := j2_ H; obtain ⟨rfl, rfl⟩ := H; obtain ⟨aa, ac, aq, a5⟩ := t4_; rotate_left; replace H := ie_ H; obtain ⟨an, aC, -, H⟩ | ⟨an, aC, be, H⟩ := H; replace H := j2_ H; obtain ⟨rfl, rfl⟩ := H; obtain ⟨aa, aD⟩ := t2_; rotate_left; replace H := tC H; obtain ⟨ad, -, H⟩ | ⟨ad, -, H⟩ := H; replace H := j2_ H; obtain ⟨rfl, rfl⟩ := H; obtain ⟨aa, aE⟩ := t2_; rotate_left; replace H := ie_ H; obtain ⟨ae, aF, -, H⟩ | ⟨ae, aF, bf, H⟩ := H; replace H := id_ H; obtain ⟨af, -, H⟩ | ⟨af, -, H⟩ := H; replace H := j2_ H; obtain ⟨rfl, rfl⟩ := H; obtain ⟨aa, ac, aG⟩ := t3_; rotate_left; replace H := qU H; obtain ⟨au, -, H⟩ | ⟨au, -, H⟩ := H; replace H := j2_ H; obtain ⟨rfl, rfl⟩ := H; obtain ⟨aa, ac, aH⟩ := t3_; rotate_left; replace H := j2_ H; obtain ⟨rfl, rfl⟩ := H; obtain ⟨aa, ac, aI⟩ := t3_; rotate_left
   replace H := j2_ H; obtain ⟨rfl, rfl⟩ := H; obtain ⟨aa, ac, aJ⟩ := t3_; rotate_left
   replace H := ie_ H; obtain ⟨am, aK, -, H⟩ | ⟨am, aK, bg, H⟩ := H; replace H := j2_ H; obtain ⟨rfl, rfl⟩ := H; have aL := t_; rotate_left; replace H := tC H; obtain ⟨ap, -, H⟩ | ⟨ap, -, H⟩ := H; replace H := j2_ H; obtain ⟨rfl, rfl⟩ := H; have aM := t_; rotate_left; replace H := kd_ H; obtain ⟨an, -, H⟩ := H; replace H := ie_ H; obtain ⟨ad, ar, -, H⟩ | ⟨ad, ar, bc, H⟩ := H; replace H := id_ H; obtain ⟨ae, -, H⟩ | ⟨ae, -, H⟩ := H; replace H := j2_ H; obtain ⟨rfl, rfl⟩ := H; obtain ⟨aa, aN⟩ := t2_; rotate_left; replace H := qU H; obtain ⟨af, -, H⟩ | ⟨af, -, H⟩ := H; replace H := j2_ H; obtain ⟨rfl, rfl⟩ := H; obtain ⟨aa, aO⟩ := t2_; rotate_left; replace H := j2_ H; obtain ⟨rfl, rfl⟩ := H; obtain ⟨aa, aP⟩ := t2_; rotate_left; replace H := j2_ H; obtain ⟨rfl, rfl⟩ := H; obtain ⟨aa, aQ⟩ := t2_; rotate_left
   replace H := ie_ H; obtain ⟨ao, aR, -, H⟩ | ⟨ao, aR, bh, H⟩ := H; replace H := j2_ H; obtain ⟨rfl, rfl⟩ := H; have aS := t_; rotate_left; replace H := tC H; obtain ⟨am, -, H⟩ | ⟨am, -, H⟩ := H; replace H := j2_ H; obtain ⟨rfl, rfl⟩ := H; have aT := t_; rotate_left
   ·by_cases a6 : 0 ≤ ab
    ·rw [if_pos a6] at H; exact absurd H lI
    ·rw [if_neg a6] at H; exact absurd H lI
   all_goals (
    try(clear aa; have ag : 0 ≤ (ab : Int) := of_decide_eq_true y1_; have ah : ab < (a0.size : Int) := of_decide_eq_true y1_; have aw := lL a0 ab; replace ag := eq_true ag; replace ah := eq_true ah)
    try(clear ac; have ai : 0 ≤ (ab : Int) := of_decide_eq_true y1_; have aj : ab < (a0.size : Int) := of_decide_eq_true y1_; have ax := lL a0 ab; replace ai := eq_true ai; replace aj := eq_true aj)
    try(clear aq; have ak : 0 ≤ (ab : Int) := of_decide_eq_true y1_; have al : ab < (a0.size : Int) := of_decide_eq_true y1_; have ay := lL a0 ab; replace ak := eq_true ak; replace al := eq_true al; go_wp2)
    try(
      clear aW; go_roundg k1
      case measure => have := HK1.out; omega
      case rel => exact ⟨(wrap64 ((wrap64 (av * 10)) + (((bt a0 ab) - 48) % 256))), (wrap64 (ab + 1)), y3_, y3_, H', ⟨pq⟩, y5_⟩)
    try(
      clear aX; go_wp2
      go_ret2
      exact ⟨y3_, y5_⟩)
    try(
      clear aY; go_wp2
      go_ret2
      exact ⟨y3_, y5_⟩)
    try(
      clear aZ; go_ret2
      exact ⟨y3_, y5_⟩)
    try(
      clear a3; go_ret2
      exact ⟨y3_, y5_⟩)
    try(
      clear a4; go_ret2
      exact ⟨y3_, y5_⟩)
    try(
      clear a5; go_ret2
      exact ⟨y3_, y5_⟩)
    try(
      clear aD; go_wp2
      go_ret2
      exact ⟨y3_, y5_⟩)
    try(
      clear aE; go_wp2
      go_ret2
      exact ⟨y3_, y5_⟩)
    try(
      clear aG; go_wp2
      go_ret2
      exact ⟨y3_, y5_⟩)
    try(
      clear aH; go_wp2
      go_ret2
      exact ⟨y3_, y5_⟩)
    try(
      clear aI; go_wp2
      go_ret2
      exact ⟨y3_, y5_⟩)
    try(
      clear aJ; go_wp2
      go_ret2
      exact ⟨y3_, y5_⟩)
    try(
      clear aL; go_wp2
      go_ret2
      exact ⟨y3_, y5_⟩)
    try(
      clear aM; go_wp2
      go_ret2
      exact ⟨y3_, y5_⟩)
    try(
      clear aN; go_wp2
      go_ret2
      exact ⟨y3_, y5_⟩)
    try(
      clear aO; go_wp2
      go_ret2
      exact ⟨y3_, y5_⟩)
    try(
      clear aP; go_wp2
      go_ret2
      exact ⟨y3_, y5_⟩)
    try(
      clear aQ; go_wp2
      go_ret2
      exact ⟨y3_, y5_⟩)
    try(
      clear aS; go_wp2
      go_ret2
      exact ⟨y3_, y5_⟩)
    try(
      clear aT; go_wp2
      go_ret2
      exact ⟨y3_, y5_⟩))

end Go.Proofs.YtbibioffldkanaaGreatDoor.K
