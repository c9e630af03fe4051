-- Written by a program of this session's own (xp.py) for this seat.
import Derived.Test.YtbibioffldkanaaGreatDoorK5
namespace Go.Proofs.YtbibioffldkanaaGreatDoor.K
open Go.RowKit Go.Proofs.YtbibioffldkanaaGreatDoorW.PrintWords Go.Proofs.YtbibioffldkanaaGreatDoorW.PrintLast Go.Proofs.YtbibioffldkanaaGreatDoorW.PrintMore
attribute [local go_sem] Instr.field asAgg
attribute [local go_sem] lS lQ mY mX lm lq lT lU   -- for this text's walks alone
set_option maxHeartbeats 8000000
set_option maxRecDepth 100000
set_option linter.unusedVariables false
set_option linter.unusedSimpArgs false

/-! ### iK: function 43 -/
def iK.l0 : Nat → ByteArray → Int → Option (Int)
  | 0, _, _ => none
  | k + 1, x0, x3 => if x3 < (x0.size : Int) then (if 0 ≤ x3 then (if (bt x0 x3) < 97 then (some 5) else (if (bt x0 x3) > 122 then (some 5) else (iK.l0 k x0 (wrap64 (x3 + 1))))) else (none)) else (if x0.toList = ([] : List UInt8) then (some 5) else (if (x0.size : Int) > 8 then (some 2) else (some 0)))
def iK.f (k : Nat) (a0 : ByteArray) : Option (Int) := iK.l0 k a0 0
theorem iK.iQ : ∀ k, (∀ y0 y1, LeO (iK.l0 k y0 y1) (iK.l0 (k + 1) y0 y1))
  | 0 => fun _ _ r h => by simp [iK.l0] at h
  | k + 1 => by
    have aW := iK.iQ k
    · intro y0 y1
      unfold iK.l0
      repeat' (with_reducible first | exact aW _ _ | exact LeO.refl _ | exact LeO.none _ | refine LeO.ite ?_ ?_ | refine LeO.bind ?_ (fun _ => ?_))
theorem iK.mono : ∀ a0 k, LeO (iK.f k a0) (iK.f (k + 1) a0) := by
  intro a0 k
  have aW := iK.iQ k
  unfold iK.f
  repeat' (with_reducible first | exact aW _ _ | exact LeO.refl _ | exact LeO.none _ | refine LeO.ite ?_ ?_ | refine LeO.bind ?_ (fun _ => ?_))
theorem iK.calls (k : Nat) (a0 : ByteArray) (r : Int) (w : World) (h : iK.f k a0 = some r) :
    Calls Tryz.prog 43 #[.string a0] w fun e w' => e = .returned (.int .i64 r) ∧ jP w w' := by
 have H : (iK.l0 k a0 0) = some r := h; clear h; have H' := a_ H; clear H; go_enter Tryz.func43, Tryz.ntmps43
 go_wp2
 go_loopg [3] k (fun kq v3 w' => ∃ (aa : Int), v3 = .int .i64 aa ∧ fD (iK.l0 kq a0 aa = some r) ∧ fD (kq ≤ k) ∧ jP w w')
 case atStart => exact ⟨(0), y3_, H', ⟨Nat.le_refl _⟩, y5_⟩
 case round =>
  clear H'; obtain ⟨aa, rfl, HA, HK1, ⟨m1, rfl⟩⟩ := hrel; cases gk with
  | zero => exact absurd HA.out (by simp [iK.l0])
  | succ k1 =>
   have H := HA.out; clear HA; simp only [iK.l0] at H; replace H := id_ H; obtain ⟨aq, -, H⟩ | ⟨aq, -, H⟩ := H; replace H := kd_ H; obtain ⟨aC, -, H⟩ := H; replace H := id_ H; obtain ⟨aJ, -, H⟩ | ⟨aJ, -, H⟩ := H; obtain rfl := Option.some.inj H; obtain ⟨aX, bp⟩ := t2_; rotate_left; replace H := qU H; obtain ⟨bh, -, H⟩ | ⟨bh, -, H⟩ := H; obtain rfl := Option.some.inj H; obtain ⟨aX, bz, bA⟩ := t3_; rotate_left; have H' := a_ H; clear H; obtain ⟨aX, bz, b3⟩ := t3_; rotate_left
   replace H := ie_ H; obtain ⟨aC, cw, -, H⟩ | ⟨aC, cw, cU, H⟩ := H; obtain rfl := Option.some.inj H; have bE := t_; rotate_left; replace H := qU H; obtain ⟨aJ, cr, H⟩ | ⟨aJ, cr, H⟩ := H; have cx : decide (8 < a0.size) = true := decide_eq_true jv; clear cr; obtain rfl := Option.some.inj H; have b4 := t_; rotate_left; have cx : decide (8 < a0.size) = false := decide_eq_false jv; clear cr; obtain rfl := Option.some.inj H; have b5 := t_; rotate_left
   all_goals (
    try(clear aX; have ab : 0 ≤ (aa : Int) := of_decide_eq_true y1_; have ac : aa < (a0.size : Int) := of_decide_eq_true y1_; have bB := lL a0 aa; replace ab := eq_true ab; replace ac := eq_true ac)
    try(
      clear bp; go_wp2
      go_ret
      exact ⟨y3_, y5_⟩)
    try(clear bz; have au : 0 ≤ (aa : Int) := of_decide_eq_true y1_; have av : aa < (a0.size : Int) := of_decide_eq_true y1_; have ct := lL a0 aa; replace au := eq_true au; replace av := eq_true av; go_wp2)
    try(
      clear bA; go_ret
      exact ⟨y3_, y5_⟩)
    try(
      clear b3; go_roundg k1
      case measure => have := HK1.out; omega
      case rel => exact ⟨(wrap64 (aa + 1)), y3_, H', ⟨pq⟩, y5_⟩)
    try(
      clear bE; go_wp2
      go_ret
      exact ⟨y3_, y5_⟩)
    try(
      clear b4; go_wp2
      go_ret
      exact ⟨y3_, y5_⟩)
    try(
      clear b5; go_wp2
      go_ret
      exact ⟨y3_, y5_⟩))

/-! ### pg: function 44 -/
def pg.f (a0 : Int) (a1 : Int) (a2 : Int) : Option (Bool) := if a0 ≥ a1 then (some (decide (a0 ≤ a2))) else (some false)
theorem pg.calls (a0 : Int) (a1 : Int) (a2 : Int) (r : Bool) (w : World) (h : pg.f a0 a1 a2 = some r) :
    Calls Tryz.prog 44 #[.int .i64 a0, .int .i64 a1, .int .i64 a2] w fun e w' => e = .returned (.bool r) ∧ jP w w' := by
 have H : (if a0 ≥ a1 then (some (decide (a0 ≤ a2))) else (some false)) = some r := h; clear h; replace H := tC H; obtain ⟨cV, -, H⟩ | ⟨cV, -, H⟩ := H
 ·obtain rfl := Option.some.inj H; go_enter Tryz.func44, Tryz.ntmps44
  go_wp2
  go_ret
  exact ⟨y3_, y5_⟩
 ·obtain rfl := Option.some.inj H; go_enter Tryz.func44, Tryz.ntmps44
  go_wp2
  go_ret
  exact ⟨y3_, y5_⟩

/-! ### jb: function 45 -/
def jb.l0 : Nat → List (S33) → Int → Int → Option (Bool)
  | 0, _, _, _ => none
  | k + 1, x0, x1, x5 => if x5 ≥ 0 then (if 0 ≤ x1 then (if x1 < (x0.length : Int) then (if x5 = ((fJ x0 x1).f1) then (some true) else (if 0 ≤ x5 then (if x5 < (x0.length : Int) then (jb.l0 k x0 x1 ((fJ x0 x5).f1)) else (none)) else (none))) else (none)) else (none)) else (some false)
def jb.f (k : Nat) (l0 : List (S33)) (a1 : Int) : Option (Bool) := jb.l0 k l0 a1 (wrap64 (a1 - 1))
theorem jb.iQ : ∀ k, (∀ y0 y1 y2, LeO (jb.l0 k y0 y1 y2) (jb.l0 (k + 1) y0 y1 y2))
  | 0 => fun _ _ _ r h => by simp [jb.l0] at h
  | k + 1 => by
    have aW := jb.iQ k
    · intro y0 y1 y2
      unfold jb.l0
      repeat' (with_reducible first | exact aW _ _ _ | exact LeO.refl _ | exact LeO.none _ | refine LeO.ite ?_ ?_ | refine LeO.bind ?_ (fun _ => ?_))
theorem jb.mono : ∀ a0 a1 k, LeO (jb.f k a0 a1) (jb.f (k + 1) a0 a1) := by
  intro a0 a1 k
  have aW := jb.iQ k
  unfold jb.f
  repeat' (with_reducible first | exact aW _ _ _ | exact LeO.refl _ | exact LeO.none _ | refine LeO.ite ?_ ?_ | refine LeO.bind ?_ (fun _ => ?_))
theorem jb.calls (k : Nat) (A0 : Option Addr) (c0 : Nat) (l0 : List (S33)) (a1 : Int) (r : Bool) (w : World) (bF : Kd.C k33 w A0 l0.length l0) (hc0 : l0.length ≤ c0) (h : jb.f k l0 a1 = some r) :
    Calls Tryz.prog 45 #[.slice A0 l0.length c0, .int .i64 a1] w fun e w' => e = .returned (.bool r) ∧ jP w w' := by
 have a4 := a_ bF; have bO := a_ hc0; clear bF hc0; have H : (jb.l0 k l0 a1 (wrap64 (a1 - 1))) = some r := h; clear h; have H' := a_ H; clear H; go_enter Tryz.func45, Tryz.ntmps45
 go_wp2
 go_loopg [5] k (fun kq v5 w' => ∃ (bq : Int), v5 = .int .i64 bq ∧ fD (jb.l0 kq l0 a1 bq = some r) ∧ fD (kq ≤ k) ∧ jP w w')
 case atStart => exact ⟨(wrap64 (a1 - 1)), y3_, H', ⟨Nat.le_refl _⟩, y5_⟩
 case round =>
  clear H'; obtain ⟨bq, rfl, HA, HK1, ⟨m1, rfl⟩⟩ := hrel; cases gk with
  | zero => exact absurd HA.out (by simp [jb.l0])
  | succ k1 =>
   have H := HA.out; clear HA; simp only [jb.l0] at H; replace H := tC H; obtain ⟨aq, -, H⟩ | ⟨aq, -, H⟩ := H; replace H := kd_ H; obtain ⟨aC, -, H⟩ := H; replace H := kd_ H; obtain ⟨aJ, -, H⟩ := H; replace H := ie_ H; obtain ⟨bh, bG, -, H⟩ | ⟨bh, bG, dk, H⟩ := H; obtain rfl := Option.some.inj H; obtain ⟨aX, bp⟩ := t2_; rotate_left; replace H := kd_ H; obtain ⟨a9, -, H⟩ := H; replace H := kd_ H; obtain ⟨ba, -, H⟩ := H; have H' := a_ H; clear H; obtain ⟨aX, bz⟩ := t2_; rotate_left
   obtain rfl := Option.some.inj H; have bA := t_; rotate_left
   all_goals (
    try(clear aX; have ab : 0 ≤ (a1 : Int) := of_decide_eq_true y1_; have ac : a1 < (l0.length : Int) := of_decide_eq_true y1_; obtain ⟨ad, A9922068_2, c9922068_2, aD, aQ, aR, bi, ai, aj⟩ := nC a4.out a1 ab ac; cases aD; have HR9922068_2 := a_ aj; have aS := a_ ai; clear aj ai; replace ab := eq_true ab; replace ac := eq_true ac)
    try(
      clear bp; go_wp2
      go_ret
      exact ⟨y3_, y5_⟩)
    try(
      clear bz; have au : 0 ≤ (bq : Int) := of_decide_eq_true y1_; have av : bq < (l0.length : Int) := of_decide_eq_true y1_; obtain ⟨bC, b6, b7, bH, bY, bZ, b0, aT, aU⟩ := nC a4.out bq au av; obtain rfl : ad = bC := (by injection bH); have HR9548309_2 := a_ aU; have b1 := a_ aT; clear aU aT; replace au := eq_true au; replace av := eq_true av; go_wp2
      go_roundg k1
      case measure => have := HK1.out; omega
      case rel => exact ⟨((fJ l0 bq).f1), y3_, H', ⟨pq⟩, y5_⟩)
    try(
      clear bA; go_wp2
      go_ret
      exact ⟨y3_, y5_⟩))

/-! ### jZ: function 70 -/
def jZ.f (a0 : Int) : Option (Bool) := if a0 ≥ 32 then (some (decide (a0 ≤ 126))) else (some false)
theorem jZ.calls (a0 : Int) (r : Bool) (w : World) (h : jZ.f a0 = some r) :
    Calls Tryz.prog 70 #[.int .u8 a0] w fun e w' => e = .returned (.bool r) ∧ jP w w' := by
 have H : (if a0 ≥ 32 then (some (decide (a0 ≤ 126))) else (some false)) = some r := h; clear h; replace H := tC H; obtain ⟨cW, -, H⟩ | ⟨cW, -, H⟩ := H
 ·obtain rfl := Option.some.inj H; go_enter Tryz.func70, Tryz.ntmps70
  go_wp2
  go_ret
  exact ⟨y3_, y5_⟩
 ·obtain rfl := Option.some.inj H; go_enter Tryz.func70, Tryz.ntmps70
  go_wp2
  go_ret
  exact ⟨y3_, y5_⟩

/-! ### ji: function 63 -/
def ji.l0 : Nat → ByteArray → Int → Option (Int)
  | 0, _, _ => none
  | k + 1, x0, x3 => if x3 < (x0.size : Int) then (if 0 ≤ x3 then ((jZ.f (bt x0 x3)).bind fun cX => (if cX = true then (ji.l0 k x0 (wrap64 (x3 + 1))) else (some 5))) else (none)) else (some 0)
def ji.f (k : Nat) (a0 : ByteArray) : Option (Int) := if (a0.size : Int) > 40 then (some 2) else (ji.l0 k a0 0)
theorem ji.iQ : ∀ k, (∀ y0 y1, LeO (ji.l0 k y0 y1) (ji.l0 (k + 1) y0 y1))
  | 0 => fun _ _ r h => by simp [ji.l0] at h
  | k + 1 => by
    have aW := ji.iQ k
    · intro y0 y1
      unfold ji.l0
      repeat' (with_reducible first | exact aW _ _ | exact LeO.refl _ | exact LeO.none _ | refine LeO.ite ?_ ?_ | refine LeO.bind ?_ (fun _ => ?_))
theorem ji.mono : ∀ a0 k, LeO (ji.f k a0) (ji.f (k + 1) a0) := by
  intro a0 k
  have aW := ji.iQ k
  unfold ji.f
  repeat' (with_reducible first | exact aW _ _ | exact LeO.refl _ | exact LeO.none _ | refine LeO.ite ?_ ?_ | refine LeO.bind ?_ (fun _ => ?_))
theorem ji.calls (k : Nat) (a0 : ByteArray) (r : Int) (w : World) (h : ji.f k a0 = some r) :
    Calls Tryz.prog 63 #[.string a0] w fun e w' => e = .returned (.int .i64 r) ∧ jP w w' := by
 have H : (if (a0.size : Int) > 40 then (some 2) else (ji.l0 k a0 0)) = some r := h; clear h; replace H := qU H; obtain ⟨aq, bj, H⟩ | ⟨aq, bj, H⟩ := H
 ·have br : decide (40 < a0.size) = true := decide_eq_true jv; clear bj; obtain rfl := Option.some.inj H; go_enter Tryz.func63, Tryz.ntmps63
  go_wp2
  go_ret
  exact ⟨y3_, y5_⟩
 ·have br : decide (40 < a0.size) = false := decide_eq_false jv; clear bj; have H' := a_ H; clear H; go_enter Tryz.func63, Tryz.ntmps63
  go_wp2
  go_loopg [3] k (fun kq v3 w' => ∃ (aa : Int), v3 = .int .i64 aa ∧ fD (ji.l0 kq a0 aa = some r) ∧ fD (kq ≤ k) ∧ jP w w')
  case atStart => exact ⟨(0), y3_, H', ⟨Nat.le_refl _⟩, y5_⟩
  case round =>
   clear H'; (try clear bj); (try clear aq); (try clear br); obtain ⟨aa, rfl, HA, HK1, ⟨m1, rfl⟩⟩ := hrel; cases gk with
   | zero => exact absurd HA.out (by simp [ji.l0])
   | succ k1 =>
    have H := HA.out; clear HA; simp only [ji.l0] at H; replace H := id_ H; obtain ⟨aC, -, H⟩ | ⟨aC, -, H⟩ := H; replace H := kd_ H; obtain ⟨aJ, -, H⟩ := H; replace H := bd_ H; obtain ⟨cL, cM, H⟩ := H; by_cases b2 : cL = true; subst b2; rw [if_pos rfl] at H; have H' := a_ H; clear H; obtain ⟨cy, cY⟩ := t2_; rotate_left; replace b2 := Bool.eq_false_iff.mpr b2; subst b2; rw [if_neg (show ¬ (false = true) by decide)] at H; obtain rfl := Option.some.inj H; obtain ⟨cy, cZ⟩ := t2_; rotate_left
    obtain rfl := Option.some.inj H; have c1 := t_; rotate_left
    all_goals (
     try(clear cy; have ab : 0 ≤ (aa : Int) := of_decide_eq_true y1_; have ac : aa < (a0.size : Int) := of_decide_eq_true y1_; have bB := lL a0 aa; replace ab := eq_true ab; replace ac := eq_true ac; go_wp2_with (first | ((with_reducible refine gm (f := 70) rfl ?_); refine gc_ 70 16 Tryz.func70 #[.int .u8 (bt a0 aa)] ?_; (with_reducible refine (jZ.calls (bt a0 aa) _ _ cM.out).mono ?_); rintro e w' ⟨rfl, ⟨nd, rfl⟩⟩; refine ⟨_, rfl, ?_⟩)))
     try(
       clear cY; go_roundg k1
       case measure => have := HK1.out; omega
       case rel => exact ⟨(wrap64 (aa + 1)), y3_, H', ⟨pq⟩, y5_⟩)
     try(
       clear cZ; go_ret
       exact ⟨y3_, y5_⟩)
     try(
       clear c1; go_wp2
       go_ret
       exact ⟨y3_, y5_⟩))

/-! ### je: function 47 -/
def je.l0 : Nat → List (S38) → Int → Option (Int)
  | 0, _, _ => none
  | k + 1, x0, x3 => if x3 < (x0.length : Int) then (if 0 ≤ x3 then ((iK.f k ((iU x0 x3).f0)).bind fun cz => (if cz = 0 then (if x3 ≤ (x0.length : Int) then ((iP.f k (x0.take (x3 : Int).toNat) ((iU x0 x3).f0)).bind fun b8 => (if b8 ≥ 0 then (some 6) else ((ji.f k ((iU x0 x3).f1)).bind fun bI => (if bI = 0 then (je.l0 k x0 (wrap64 (x3 + 1))) else (some bI))))) else (none)) else (some cz))) else (none)) else (some 0)
def je.f (k : Nat) (l0 : List (S38)) : Option (Int) := je.l0 k l0 0
theorem je.iQ : ∀ k, (∀ y0 y1, LeO (je.l0 k y0 y1) (je.l0 (k + 1) y0 y1))
  | 0 => fun _ _ r h => by simp [je.l0] at h
  | k + 1 => by
    have aW := je.iQ k
    · intro y0 y1
      unfold je.l0
      repeat' (with_reducible first | exact aW _ _ | exact iK.mono _ _ | exact ji.mono _ _ | exact iP.mono _ _ _ | exact LeO.refl _ | exact LeO.none _ | refine LeO.ite ?_ ?_ | refine LeO.bind ?_ (fun _ => ?_))
theorem je.mono : ∀ a0 k, LeO (je.f k a0) (je.f (k + 1) a0) := by
  intro a0 k
  have aW := je.iQ k
  unfold je.f
  repeat' (with_reducible first | exact aW _ _ | exact iK.mono _ _ | exact ji.mono _ _ | exact iP.mono _ _ _ | exact LeO.refl _ | exact LeO.none _ | refine LeO.ite ?_ ?_ | refine LeO.bind ?_ (fun _ => ?_))
theorem je.calls (k : Nat) (A0 : Option Addr) (c0 : Nat) (l0 : List (S38)) (r : Int) (w : World) (bF : Kd.C k38 w A0 l0.length l0) (hc0 : l0.length ≤ c0) (h : je.f k l0 = some r) :
    Calls Tryz.prog 47 #[.slice A0 l0.length c0] w fun e w' => e = .returned (.int .i64 r) ∧ jP w w' := by
 have a4 := a_ bF; have bO := a_ hc0; clear bF hc0; have H : (je.l0 k l0 0) = some r := h; clear h; have H' := a_ H; clear H; go_enter Tryz.func47, Tryz.ntmps47
 go_wp2
 repeat (go_quiet (fail); try go_wp2)
 go_loopg [3] k (fun kq v3 w' => ∃ (aa : Int), v3 = .int .i64 aa ∧ fD (je.l0 kq l0 aa = some r) ∧ fD (kq ≤ k) ∧ jP w w')
 case atStart => exact ⟨(0), y3_, H', ⟨Nat.le_refl _⟩, y5_⟩
 case round =>
  clear H'; obtain ⟨aa, rfl, HA, HK1, ⟨m1, rfl⟩⟩ := hrel; cases gk with
  | zero => exact absurd HA.out (by simp [je.l0])
  | succ k1 =>
   have H := HA.out; clear HA; simp only [je.l0] at H; replace H := id_ H; obtain ⟨aq, -, H⟩ | ⟨aq, -, H⟩ := H; replace H := kd_ H; obtain ⟨aC, -, H⟩ := H; replace H := bd_ H; obtain ⟨cN, cO, H⟩ := H; replace H := ie_ H; obtain ⟨bh, bG, -, H⟩ | ⟨bh, bG, dk, H⟩ := H; have dl := eq_true (of_decide_eq_true y1_ : 0 ≤ aa); replace H := kq_ H; obtain ⟨a9, bk, -, H⟩ := H; obtain ⟨bb, hy_⟩ : ∃ y_ : List (S38), y_ = (l0.take (aa : Int).toNat) := ⟨_, rfl⟩; replace H : ((iP.f k1 bb ((iU l0 aa).f0)).bind fun b8 => (if b8 ≥ 0 then (some 6) else ((ji.f k1 ((iU l0 aa).f1)).bind fun bI => (if bI = 0 then (je.l0 k1 l0 (wrap64 (aa + 1))) else (some bI))))) = some r := z0_; have bs := a_ hy_; clear hy_; replace H := bd_ H; obtain ⟨cP, cQ, H⟩ := H; replace H := tC H; obtain ⟨aE, -, H⟩ | ⟨aE, -, H⟩ := H; obtain rfl := Option.some.inj H; obtain ⟨aX, bp, bz, bE⟩ := t4_; rotate_left; replace H := bd_ H; obtain ⟨bJ, bP, H⟩ := H; replace H := ie_ H; obtain ⟨aV, cA, -, H⟩ | ⟨aV, cA, dx, H⟩ := H; have H' := a_ H; clear H; obtain ⟨aX, bp, bA, b4⟩ := t4_; rotate_left; obtain rfl := Option.some.inj H; obtain ⟨aX, bp, bA, bE⟩ := t4_; rotate_left
   obtain rfl := Option.some.inj H; obtain ⟨aX, b3, bE⟩ := t3_; rotate_left
   obtain rfl := Option.some.inj H; have b5 := t_; rotate_left
   all_goals (
    try(
      clear aX; have ab : 0 ≤ (aa : Int) := of_decide_eq_true y1_; have ac : aa < (l0.length : Int) := of_decide_eq_true y1_; obtain ⟨ad, aD, aQ, aR⟩ := oW a4.out aa ab ac; cases aD; replace ab := eq_true ab; replace ac := eq_true ac
      go_wp2_with (first | (have mkq_ := bp; clear mkq_; go_at_call 43; (with_reducible refine (iK.calls k1 ((iU l0 aa).f0) cN _ cO.out).mono ?_); rintro e w' ⟨rfl, ⟨nd, rfl⟩⟩; (try exact yd_); have al : (aa : Int) ≤ ((l0.length : Int) : Int) := of_decide_eq_true y1_; obtain ⟨bK, aw, _, aI, _⟩ := info_parts ug; have af : l0.length ≤ c0 := bO.out; have ax : Kd.C k38 _ (some ad) l0.length l0 := a4.out; have aF := Be (P := Tryz.prog) 31 38 .i64 Tryz.underlying31 aw (some ad) l0.length c0 aa (of_decide_eq_true y1_) al af; have ag := Kd.Bf (m := (aa : Int).toNat) ax jv; have ah : bb.length = (aa : Int).toNat := (by rw [bs.out, List.length_take]; omega); rw [← bs.out] at ag; rw [← ah] at aF; have ay := a_ ag; have az := a_ (show bb.length ≤ c0 from by omega); clear ag ax af aw aI; have bD := a_ ah; clear ah; replace al := eq_true al; have am : 0 ≤ (aa : Int) := of_decide_eq_true y1_; have an : aa < (l0.length : Int) := of_decide_eq_true y1_; obtain ⟨aO, aY, bl, bm⟩ := oW a4.out aa am an; obtain rfl : ad = aO := (by injection aY); replace am := eq_true am; replace an := eq_true an) | (have mkq_ := bz; clear mkq_; go_at_call 50; (with_reducible refine (iP.calls k1 _ _ bb ((iU l0 aa).f0) cP _ ?side1 ?side2 cQ.out).mono ?_); (case side1 => repeat (first | exact ay.out | (with_reducible refine Kd.jh ?_ _) | (with_reducible refine Kd.jk ?_ _) | (with_reducible refine Kd.jK ?_))); (case side2 => exact az.out); rintro e w' ⟨rfl, ⟨nd, rfl⟩⟩; (try exact yd_)) | (have mkq_ := bA; clear mkq_; go_at_call 50; (with_reducible refine (iP.calls k1 _ _ bb ((iU l0 aa).f0) cP _ ?side1 ?side2 cQ.out).mono ?_); (case side1 => repeat (first | exact ay.out | (with_reducible refine Kd.jh ?_ _) | (with_reducible refine Kd.jk ?_ _) | (with_reducible refine Kd.jK ?_))); (case side2 => exact az.out); rintro e w' ⟨rfl, ⟨nd, rfl⟩⟩; (try exact yd_); have ao : 0 ≤ (aa : Int) := of_decide_eq_true y1_; have ap : aa < (l0.length : Int) := of_decide_eq_true y1_; obtain ⟨aP, aZ, bn, bo⟩ := oW a4.out aa ao ap; obtain rfl : ad = aP := (by injection aZ); replace ao := eq_true ao; replace ap := eq_true ap) | (go_at_call 63; (with_reducible refine (ji.calls k1 ((iU l0 aa).f1) bJ _ bP.out).mono ?_); rintro e w' ⟨rfl, ⟨nd, rfl⟩⟩; (try exact yd_)) | (have mkq_ := b3; clear mkq_; go_at_call 43; (with_reducible refine (iK.calls k1 ((iU l0 aa).f0) cN _ cO.out).mono ?_); rintro e w' ⟨rfl, ⟨nd, rfl⟩⟩; (try exact yd_)) | go_quiet (first | (go_at_call 43; (with_reducible refine (iK.calls k1 ((iU l0 aa).f0) cN _ cO.out).mono ?_); rintro e w' ⟨rfl, ⟨nd, rfl⟩⟩; (try exact yd_); have al : (aa : Int) ≤ ((l0.length : Int) : Int) := of_decide_eq_true y1_; obtain ⟨bK, aw, _, aI, _⟩ := info_parts ug; have af : l0.length ≤ c0 := bO.out; have ax : Kd.C k38 _ (some ad) l0.length l0 := a4.out; have aF := Be (P := Tryz.prog) 31 38 .i64 Tryz.underlying31 aw (some ad) l0.length c0 aa (of_decide_eq_true y1_) al af; have ag := Kd.Bf (m := (aa : Int).toNat) ax jv; have ah : bb.length = (aa : Int).toNat := (by rw [bs.out, List.length_take]; omega); rw [← bs.out] at ag; rw [← ah] at aF; have ay := a_ ag; have az := a_ (show bb.length ≤ c0 from by omega); clear ag ax af aw aI; have bD := a_ ah; clear ah; replace al := eq_true al; have am : 0 ≤ (aa : Int) := of_decide_eq_true y1_; have an : aa < (l0.length : Int) := of_decide_eq_true y1_; obtain ⟨aO, aY, bl, bm⟩ := oW a4.out aa am an; obtain rfl : ad = aO := (by injection aY); replace am := eq_true am; replace an := eq_true an) | (go_at_call 50; (with_reducible refine (iP.calls k1 _ _ bb ((iU l0 aa).f0) cP _ ?side1 ?side2 cQ.out).mono ?_); (case side1 => repeat (first | exact ay.out | (with_reducible refine Kd.jh ?_ _) | (with_reducible refine Kd.jk ?_ _) | (with_reducible refine Kd.jK ?_))); (case side2 => exact az.out); rintro e w' ⟨rfl, ⟨nd, rfl⟩⟩; (try exact yd_)) | (go_at_call 50; (with_reducible refine (iP.calls k1 _ _ bb ((iU l0 aa).f0) cP _ ?side1 ?side2 cQ.out).mono ?_); (case side1 => repeat (first | exact ay.out | (with_reducible refine Kd.jh ?_ _) | (with_reducible refine Kd.jk ?_ _) | (with_reducible refine Kd.jK ?_))); (case side2 => exact az.out); rintro e w' ⟨rfl, ⟨nd, rfl⟩⟩; (try exact yd_); have ao : 0 ≤ (aa : Int) := of_decide_eq_true y1_; have ap : aa < (l0.length : Int) := of_decide_eq_true y1_; obtain ⟨aP, aZ, bn, bo⟩ := oW a4.out aa ao ap; obtain rfl : ad = aP := (by injection aZ); replace ao := eq_true ao; replace ap := eq_true ap) | (go_at_call 63; (with_reducible refine (ji.calls k1 ((iU l0 aa).f1) bJ _ bP.out).mono ?_); rintro e w' ⟨rfl, ⟨nd, rfl⟩⟩; (try exact yd_)) | (go_at_call 43; (with_reducible refine (iK.calls k1 ((iU l0 aa).f0) cN _ cO.out).mono ?_); rintro e w' ⟨rfl, ⟨nd, rfl⟩⟩; (try exact yd_)))))
    try(
      clear bE; go_ret
      exact ⟨y3_, y5_⟩)
    try(
      clear b4; go_roundg k1
      case measure => have := HK1.out; omega
      case rel => exact ⟨(wrap64 (aa + 1)), y3_, H', ⟨pq⟩, y5_⟩)
    try(
      clear b5; go_wp2
      repeat (go_quiet (fail); try go_wp2)
      go_ret
      exact ⟨y3_, y5_⟩))

/-! ### gp: function 23 -/
mutual
def gp.j0 : Nat → List (S33) → Bool → Option (Int)
  | 0, _, _ => none
  | k + 1, x0, dm => if dm = true then (some 2) else (gp.l0 k x0 0)
def gp.l0 : Nat → List (S33) → Int → Option (Int)
  | 0, _, _ => none
  | k + 1, x0, x3 => if x3 < (x0.length : Int) then (if 0 ≤ x3 then ((iK.f k ((fJ x0 x3).f0)).bind fun cB => (if cB = 0 then (if x3 = 0 then (if ((fJ x0 x3).f1) = (-1) then (if x3 > 0 then ((pg.f ((fJ x0 x3).f1) 0 (wrap64 (x3 - 1))).bind fun c2 => (gp.j2 k x0 x3 (!c2))) else (gp.j2 k x0 x3 false)) else (gp.j2 k x0 x3 true)) else (if x3 > 0 then ((pg.f ((fJ x0 x3).f1) 0 (wrap64 (x3 - 1))).bind fun c3 => (gp.j2 k x0 x3 (!c3))) else (gp.j2 k x0 x3 false))) else (some cB))) else (none)) else (some 0)
def gp.j2 : Nat → List (S33) → Int → Bool → Option (Int)
  | 0, _, _, _ => none
  | k + 1, x0, x3, dn => if dn = true then (some 3) else (if x3 > 0 then ((jb.f k x0 x3).bind fun c4 => (gp.j3 k x0 x3 (!c4))) else (gp.j3 k x0 x3 false))
def gp.j3 : Nat → List (S33) → Int → Bool → Option (Int)
  | 0, _, _, _ => none
  | k + 1, x0, x3, dp => if dp = true then (some 1) else ((ja.f k x0 x3).bind fun c5 => (if c5 > 8 then (gp.j4 k x0 x3 true) else (if 0 ≤ x3 then (if x3 < (x0.length : Int) then (gp.j4 k x0 x3 (decide ((((fJ x0 x3).f2).length : Int) > 6))) else (none)) else (none))))
def gp.j4 : Nat → List (S33) → Int → Bool → Option (Int)
  | 0, _, _, _ => none
  | k + 1, x0, x3, dq => if dq = true then (some 2) else (if 0 ≤ x3 then (if x3 < (x0.length : Int) then ((je.f k ((fJ x0 x3).f2)).bind fun cC => (if cC = 0 then (gp.l0 k x0 (wrap64 (x3 + 1))) else (some cC))) else (none)) else (none))
end
def gp.f (k : Nat) (l0 : List (S33)) : Option (Int) := if (l0.length : Int) < 1 then (gp.j0 k l0 true) else (gp.j0 k l0 (decide ((l0.length : Int) > 40)))
theorem gp.iQ : ∀ k, (∀ y0 y1, LeO (gp.j0 k y0 y1) (gp.j0 (k + 1) y0 y1)) ∧ (∀ y0 y1, LeO (gp.l0 k y0 y1) (gp.l0 (k + 1) y0 y1)) ∧ (∀ y0 y1 y2, LeO (gp.j2 k y0 y1 y2) (gp.j2 (k + 1) y0 y1 y2)) ∧ (∀ y0 y1 y2, LeO (gp.j3 k y0 y1 y2) (gp.j3 (k + 1) y0 y1 y2)) ∧ (∀ y0 y1 y2, LeO (gp.j4 k y0 y1 y2) (gp.j4 (k + 1) y0 y1 y2))
  | 0 => ⟨fun _ _ r h => by simp [gp.j0] at h, fun _ _ r h => by simp [gp.l0] at h, fun _ _ _ r h => by simp [gp.j2] at h, fun _ _ _ r h => by simp [gp.j3] at h, fun _ _ _ r h => by simp [gp.j4] at h⟩
  | k + 1 => by
    obtain ⟨aW, b9, ca, cb, cc⟩ := gp.iQ k
    refine ⟨?_, ?_, ?_, ?_, ?_⟩
    · intro y0 y1
      unfold gp.j0
      repeat' (with_reducible first | exact aW _ _ | exact b9 _ _ | exact ca _ _ _ | exact cb _ _ _ | exact cc _ _ _ | exact iK.mono _ _ | exact je.mono _ _ | exact ja.mono _ _ _ | exact jb.mono _ _ _ | exact LeO.refl _ | exact LeO.none _ | refine LeO.ite ?_ ?_ | refine LeO.bind ?_ (fun _ => ?_))
    · intro y0 y1
      unfold gp.l0
      repeat' (with_reducible first | exact aW _ _ | exact b9 _ _ | exact ca _ _ _ | exact cb _ _ _ | exact cc _ _ _ | exact iK.mono _ _ | exact je.mono _ _ | exact ja.mono _ _ _ | exact jb.mono _ _ _ | exact LeO.refl _ | exact LeO.none _ | refine LeO.ite ?_ ?_ | refine LeO.bind ?_ (fun _ => ?_))
    · intro y0 y1 y2
      unfold gp.j2
      repeat' (with_reducible first | exact aW _ _ | exact b9 _ _ | exact ca _ _ _ | exact cb _ _ _ | exact cc _ _ _ | exact iK.mono _ _ | exact je.mono _ _ | exact ja.mono _ _ _ | exact jb.mono _ _ _ | exact LeO.refl _ | exact LeO.none _ | refine LeO.ite ?_ ?_ | refine LeO.bind ?_ (fun _ => ?_))
    · intro y0 y1 y2
      unfold gp.j3
      repeat' (with_reducible first | exact aW _ _ | exact b9 _ _ | exact ca _ _ _ | exact cb _ _ _ | exact cc _ _ _ | exact iK.mono _ _ | exact je.mono _ _ | exact ja.mono _ _ _ | exact jb.mono _ _ _ | exact LeO.refl _ | exact LeO.none _ | refine LeO.ite ?_ ?_ | refine LeO.bind ?_ (fun _ => ?_))
    · intro y0 y1 y2
      unfold gp.j4
      repeat' (with_reducible first | exact aW _ _ | exact b9 _ _ | exact ca _ _ _ | exact cb _ _ _ | exact cc _ _ _ | exact iK.mono _ _ | exact je.mono _ _ | exact ja.mono _ _ _ | exact jb.mono _ _ _ | exact LeO.refl _ | exact LeO.none _ | refine LeO.ite ?_ ?_ | refine LeO.bind ?_ (fun _ => ?_))
theorem gp.mono : ∀ a0 k, LeO (gp.f k a0) (gp.f (k + 1) a0) := by
  intro a0 k
  obtain ⟨aW, b9, ca, cb, cc⟩ := gp.iQ k
  unfold gp.f
  repeat' (with_reducible first | exact aW _ _ | exact b9 _ _ | exact ca _ _ _ | exact cb _ _ _ | exact cc _ _ _ | exact iK.mono _ _ | exact je.mono _ _ | exact ja.mono _ _ _ | exact jb.mono _ _ _ | exact LeO.refl _ | exact LeO.none _ | refine LeO.ite ?_ ?_ | refine LeO.bind ?_ (fun _ => ?_))
theorem gp.calls (k : Nat) (A0 : Option Addr) (c0 : Nat) (l0 : List (S33)) (r : Int) (w : World) (bF : Kd.C k33 w A0 l0.length l0) (hc0 : l0.length ≤ c0) (h : gp.f k l0 = some r) :
    Calls Tryz.prog 23 #[.slice A0 l0.length c0] w fun e w' => e = .returned (.int .i64 r) ∧ jP w w' := by
 have a4 := a_ bF; have bO := a_ hc0; clear bF hc0; have H : (if (l0.length : Int) < 1 then (gp.j0 k l0 true) else (gp.j0 k l0 (decide ((l0.length : Int) > 40)))) = some r := h; clear h; have c6 := a_ H; clear H; go_enter Tryz.func23, Tryz.ntmps23
 go_upto_region 1 with (fail)
 go_cut [14] (fun dr wc => ∃ (kq : Nat) (bu : Bool), dr = .bool bu ∧ fD (gp.j0 kq l0 bu = some r) ∧ fD (kq ≤ k) ∧ jP w wc)
 case first =>
  have H := c6.out; clear c6; replace H := id_ H; obtain ⟨aq, bj, H⟩ | ⟨aq, bj, H⟩ := H
  ·have br : decide (l0.length < 1) = true := decide_eq_true jv; clear bj; (first | rw [aq] | (simp only [jm, jr]; rw [aq]) | skip); have H' := a_ H; clear H; go_wp2
   go_meet
   case rel => exact ⟨_, (true), y3_, H', ⟨yU⟩, y5_⟩
  ·have br : decide (l0.length < 1) = false := decide_eq_false jv; clear bj; (first | rw [aq] | (simp only [jm, jr]; rw [aq]) | skip); have H' := a_ H; clear H; go_wp2
   go_meet
   case rel => exact ⟨_, (decide ((l0.length : Int) > 40)), y3_, H', ⟨yU⟩, y5_⟩
 case rest =>
  clear c6; obtain ⟨kq, bu, rfl, HA, HJ1, ⟨mc1, rfl⟩⟩ := hcut; cases kq with
  | zero => exact absurd HA.out (by simp [gp.j0])
  | succ dh =>
   have H := HA.out; clear HA; simp only [gp.j0] at H; by_cases bj : bu = true
   ·subst bj; rw [if_pos rfl] at H; obtain rfl := Option.some.inj H; go_wp2
    go_ret
    exact ⟨y3_, y5_⟩
   ·replace bj := Bool.eq_false_iff.mpr bj; subst bj; rw [if_neg (show ¬ (false = true) by decide)] at H; have H' := a_ H; clear H; go_wp2
    go_loopg [3] dh (fun kq v3 w' => ∃ (ae : Int), v3 = .int .i64 ae ∧ fD (gp.l0 kq l0 ae = some r) ∧ fD (kq ≤ dh) ∧ jP w w')
    case atStart => exact ⟨(0), y3_, H', ⟨Nat.le_refl _⟩, y5_⟩
    case round =>
     clear H'; (try clear bj); obtain ⟨ae, rfl, HA, HK2, ⟨m2, rfl⟩⟩ := hrel; cases gk with
     | zero => exact absurd HA.out (by simp [gp.l0])
     | succ k2 =>
      have H := HA.out; clear HA; simp only [gp.l0] at H; replace H := id_ H; obtain ⟨aC, -, H⟩ | ⟨aC, -, H⟩ := H
      ·replace H := kd_ H; obtain ⟨aJ, -, H⟩ := H
       ·replace H := bd_ H; obtain ⟨cL, cM, H⟩ := H; replace H := ie_ H; obtain ⟨a9, bk, -, H⟩ | ⟨a9, bk, b2, H⟩ := H
        ·have c7 := a_ H; clear H; have a5 : 0 ≤ (ae : Int) := of_decide_eq_true y1_; have a6 : ae < (l0.length : Int) := of_decide_eq_true y1_; obtain ⟨a3, cd, ce, cf, aG, aH, ar, aK, aL⟩ := nC a4.out ae a5 a6; cases cf; have bQ := a_ aL; have bR := a_ aK; clear aL aK; replace a5 := eq_true a5; replace a6 := eq_true a6; have a7 : 0 ≤ (ae : Int) := of_decide_eq_true y1_; have a8 : ae < (l0.length : Int) := of_decide_eq_true y1_; obtain ⟨bL, cg, ch, ci, aA, aB, ak, aM, aN⟩ := nC a4.out ae a7 a8; obtain rfl : a3 = bL := (by injection ci); have bS := a_ aN; have bT := a_ aM; clear aN aM; replace a7 := eq_true a7; replace a8 := eq_true a8; have ea_ := Option.some.inj (ar.symm.trans ak); injection ea_ with ea_ en_ ec_; subst ea_; subst ec_; clear en_; go_upto_region 10 with (first | ((with_reducible refine gm (f := 43) rfl ?_); refine gc_ 43 28 Tryz.func43 #[.string ((fJ l0 ae).f0)] ?_; (with_reducible refine (iK.calls k2 ((fJ l0 ae).f0) cL _ cM.out).mono ?_); rintro e w' ⟨rfl, ⟨nd, rfl⟩⟩; refine ⟨_, rfl, ?_⟩))
         (try simp only [Act.put, List.setIfInBounds_toArray, List.set_cons_zero, List.set_cons_succ]); go_cut [54] (fun ds wc => ∃ (kq : Nat) (bv : Bool), ds = .bool bv ∧ fD (gp.j2 kq l0 ae bv = some r) ∧ fD (kq ≤ k2) ∧ jP w wc)
         case first =>
          have H := c7.out; clear c7; replace H := ie_ H; obtain ⟨ba, cD, -, H⟩ | ⟨ba, cD, cj, H⟩ := H
          ·(first | rw [ba] | (simp only [jm, jr]; rw [ba]) | skip); replace H := ie_ H; obtain ⟨aE, cE, -, H⟩ | ⟨aE, cE, cu, H⟩ := H
           ·replace H := qU H; obtain ⟨cF, -, H⟩ | ⟨cF, -, H⟩ := H
            ·replace H := bd_ H; obtain ⟨di, dt, H⟩ := H; have H' := a_ H; clear H; go_wp2_with (first | (go_at_call 44; (with_reducible refine (pg.calls ((fJ l0 ae).f1) 0 (wrap64 (ae - 1)) di _ dt.out).mono ?_); rintro e w' ⟨rfl, ⟨nd, rfl⟩⟩))
             go_meet
             case rel => exact ⟨_, (!di), y3_, H', ⟨CJ⟩, y5_⟩
            ·have H' := a_ H; clear H; go_wp2
             go_meet
             case rel => exact ⟨_, (false), y3_, H', ⟨CJ⟩, y5_⟩
           ·have H' := a_ H; clear H; go_wp2
            go_meet
            case rel => exact ⟨_, (true), y3_, H', ⟨CJ⟩, y5_⟩
          ·(first | rw [ba] | (simp only [jm, jr]; rw [ba]) | skip); replace H := qU H; obtain ⟨aE, -, H⟩ | ⟨aE, -, H⟩ := H
           ·replace H := bd_ H; obtain ⟨bJ, bP, H⟩ := H; have H' := a_ H; clear H; go_wp2_with (first | (go_at_call 44; (with_reducible refine (pg.calls ((fJ l0 ae).f1) 0 (wrap64 (ae - 1)) bJ _ bP.out).mono ?_); rintro e w' ⟨rfl, ⟨nd, rfl⟩⟩))
            go_meet
            case rel => exact ⟨_, (!bJ), y3_, H', ⟨CJ⟩, y5_⟩
           ·have H' := a_ H; clear H; go_wp2
            go_meet
            case rel => exact ⟨_, (false), y3_, H', ⟨CJ⟩, y5_⟩
         case rest =>
          clear c7; (try clear bj); (try clear cU); (try clear aC); (try clear cr); (try clear aJ); (try clear b2); (try clear a9); (try clear bk); (try clear aG); (try clear aH); (try clear ar); (try clear aA); (try clear aB); (try clear ak); (try clear a5); (try clear a7); (try clear a6); (try clear a8); obtain ⟨kq, bv, rfl, HA, cv, ⟨mc8, rfl⟩⟩ := hcut; cases kq with
          | zero => exact absurd HA.out (by simp [gp.j2])
          | succ dj =>
           have H := HA.out; clear HA; simp only [gp.j2] at H; by_cases cj : bv = true
           ·subst cj; rw [if_pos rfl] at H; obtain rfl := Option.some.inj H; go_wp2
            go_ret
            exact ⟨y3_, y5_⟩
           ·replace cj := Bool.eq_false_iff.mpr cj; subst cj; rw [if_neg (show ¬ (false = true) by decide)] at H; have ck := a_ H; clear H; go_upto_region 12 with (fail)
            go_cut [62] (fun du wc => ∃ (kq : Nat) (bc : Bool), du = .bool bc ∧ fD (gp.j3 kq l0 ae bc = some r) ∧ fD (kq ≤ dj) ∧ jP w wc)
            case first =>
             have H := ck.out; clear ck; replace H := qU H; obtain ⟨aE, -, H⟩ | ⟨aE, -, H⟩ := H
             ·(first | rw [aE] | (simp only [jm, jr]; rw [aE]) | skip); replace H := bd_ H; obtain ⟨bJ, bP, H⟩ := H; have H' := a_ H; clear H; go_wp2_with (first | (go_at_call 45; (with_reducible refine (jb.calls dj _ _ l0 ae bJ _ ?side1 ?side2 bP.out).mono ?_); (case side1 => repeat (first | exact a4.out | (with_reducible refine Kd.jh ?_ _) | (with_reducible refine Kd.jk ?_ _) | (with_reducible refine Kd.jK ?_))); (case side2 => exact bO.out); rintro e w' ⟨rfl, ⟨nd, rfl⟩⟩))
              go_meet
              case rel => exact ⟨_, (!bJ), y3_, H', ⟨by have := HJ1.out; have := HK2.out; have := cv.out; first | omega | exact Nat.le_refl _⟩, y5_⟩
             ·(first | rw [aE] | (simp only [jm, jr]; rw [aE]) | skip); have H' := a_ H; clear H; go_wp2
              go_meet
              case rel => exact ⟨_, (false), y3_, H', ⟨by have := HJ1.out; have := HK2.out; have := cv.out; first | omega | exact Nat.le_refl _⟩, y5_⟩
            case rest =>
             clear ck; (try clear bj); (try clear cU); (try clear aC); (try clear cr); (try clear aJ); (try clear b2); (try clear a9); (try clear bk); (try clear cj); (try clear aG); (try clear aH); (try clear ar); (try clear aA); (try clear aB); (try clear ak); (try clear a5); (try clear a7); (try clear a6); (try clear a8); obtain ⟨kq, bc, rfl, HA, bU, ⟨mc16, rfl⟩⟩ := hcut; cases kq with
             | zero => exact absurd HA.out (by simp [gp.j3])
             | succ cl =>
              have H := HA.out; clear HA; simp only [gp.j3] at H; by_cases cu : bc = true
              ·subst cu; rw [if_pos rfl] at H; obtain rfl := Option.some.inj H; go_wp2
               go_ret
               exact ⟨y3_, y5_⟩
              ·replace cu := Bool.eq_false_iff.mpr cu; subst cu; rw [if_neg (show ¬ (false = true) by decide)] at H; have cm := a_ H; clear H; go_upto_region 14 with (fail)
               go_cut [74] (fun dv wc => ∃ (kq : Nat) (bd : Bool), dv = .bool bd ∧ fD (gp.j4 kq l0 ae bd = some r) ∧ fD (kq ≤ cl) ∧ jP w wc)
               case first =>
                have H := cm.out; clear cm; replace H := bd_ H; obtain ⟨bJ, bP, H⟩ := H; replace H := qU H; obtain ⟨aV, -, H⟩ | ⟨aV, -, H⟩ := H
                ·(first | rw [aV] | (simp only [jm, jr]; rw [aV]) | skip); have H' := a_ H; clear H; go_wp2_with (first | ((with_reducible refine gm (f := 46) rfl ?_); refine gc_ 46 65 Tryz.func46 #[.slice (some a3) l0.length c0, .int .i64 ae] ?_; (with_reducible refine (ja.calls cl _ _ l0 ae bJ _ ?side1 ?side2 bP.out).mono ?_); (case side1 => repeat (first | exact a4.out | (with_reducible refine Kd.jh ?_ _) | (with_reducible refine Kd.jk ?_ _) | (with_reducible refine Kd.jK ?_))); (case side2 => exact bO.out); rintro e w' ⟨rfl, ⟨nd, rfl⟩⟩; refine ⟨_, rfl, ?_⟩))
                 go_meet
                 case rel => exact ⟨_, (true), y3_, H', ⟨by have := HJ1.out; have := HK2.out; have := cv.out; have := bU.out; first | omega | exact Nat.le_refl _⟩, y5_⟩
                ·(first | rw [aV] | (simp only [jm, jr]; rw [aV]) | skip); replace H := kd_ H; obtain ⟨cG, -, H⟩ := H
                 ·replace H := kd_ H; obtain ⟨c8, -, H⟩ := H
                  ·have H' := a_ H; clear H; go_wp2_with (first | ((with_reducible refine gm (f := 46) rfl ?_); refine gc_ 46 65 Tryz.func46 #[.slice (some a3) l0.length c0, .int .i64 ae] ?_; (with_reducible refine (ja.calls cl _ _ l0 ae bJ _ ?side1 ?side2 bP.out).mono ?_); (case side1 => repeat (first | exact a4.out | (with_reducible refine Kd.jh ?_ _) | (with_reducible refine Kd.jk ?_ _) | (with_reducible refine Kd.jK ?_))); (case side2 => exact bO.out); rintro e w' ⟨rfl, ⟨nd, rfl⟩⟩; refine ⟨_, rfl, ?_⟩; have cn : 0 ≤ (ae : Int) := of_decide_eq_true y1_; have co : ae < (l0.length : Int) := of_decide_eq_true y1_; (try clear aG aH ar); (try clear aA aB ak); obtain ⟨cH, c9, da, db, be, bf, bg, bw, bx⟩ := nC a4.out ae cn co; obtain rfl : a3 = cH := (by injection db); have cR := a_ bx; have cS := a_ bw; clear bx bw; replace cn := eq_true cn; replace co := eq_true co))
                   go_meet
                   case rel => exact ⟨_, (decide ((((fJ l0 ae).f2).length : Int) > 6)), y3_, H', ⟨by have := HJ1.out; have := HK2.out; have := cv.out; have := bU.out; first | omega | exact Nat.le_refl _⟩, y5_⟩
               case rest =>
                clear cm; (try clear bj); (try clear cU); (try clear aC); (try clear cr); (try clear aJ); (try clear b2); (try clear a9); (try clear bk); (try clear cj); (try clear cu); (try clear aG); (try clear aH); (try clear ar); (try clear aA); (try clear aB); (try clear ak); (try clear a5); (try clear a7); (try clear a6); (try clear a8); obtain ⟨kq, bd, rfl, HA, cI, ⟨mc20, rfl⟩⟩ := hcut; cases kq with
                | zero => exact absurd HA.out (by simp [gp.j4])
                | succ cJ =>
                 have H := HA.out; clear HA; simp only [gp.j4] at H; by_cases cT : bd = true; subst cT; rw [if_pos rfl] at H; obtain rfl := Option.some.inj H; have dc := t_; rotate_left; replace cT := Bool.eq_false_iff.mpr cT; subst cT; rw [if_neg (show ¬ (false = true) by decide)] at H; replace H := kd_ H; obtain ⟨aV, -, H⟩ := H; replace H := kd_ H; obtain ⟨cG, -, H⟩ := H; replace H := bd_ H; obtain ⟨dd, de, H⟩ := H; replace H := ie_ H; obtain ⟨cp, cq, -, H⟩ | ⟨cp, cq, dw, H⟩ := H; have H' := a_ H; clear H; obtain ⟨cK, df⟩ := t2_; rotate_left; obtain rfl := Option.some.inj H; obtain ⟨cK, dg⟩ := t2_; rotate_left
                 all_goals (
                  try(
                    clear dc; go_wp2
                    go_ret
                    exact ⟨y3_, y5_⟩)
                  try(
                    clear cK; have ab : 0 ≤ (ae : Int) := of_decide_eq_true y1_; have ac : ae < (l0.length : Int) := of_decide_eq_true y1_; (try clear aG aH ar); (try clear aA aB ak); (try clear be bf bg)
                    obtain ⟨ad, A9922068_2, c9922068_2, aD, aQ, aR, bi, ai, aj⟩ := nC a4.out ae ab ac; obtain rfl : a3 = ad := (by injection aD); have HR9922068_2 := a_ aj; have aS := a_ ai; clear aj ai; replace ab := eq_true ab; replace ac := eq_true ac; go_wp2_with (first | ((with_reducible refine gm (f := 47) rfl ?_); refine gc_ 47 79 Tryz.func47 #[.slice A9922068_2 ((fJ l0 ae).f2).length c9922068_2] ?_; (with_reducible refine (je.calls cJ _ _ ((fJ l0 ae).f2) dd _ ?side1 ?side2 de.out).mono ?_); (case side1 => repeat (first | exact HR9922068_2.out | (with_reducible refine Kd.jh ?_ _) | (with_reducible refine Kd.jk ?_ _) | (with_reducible refine Kd.jK ?_))); (case side2 => exact aS.out); rintro e w' ⟨rfl, ⟨nd, rfl⟩⟩; refine ⟨_, rfl, ?_⟩)))
                  try(
                    clear df; go_roundg cJ
                    case measure => have := HJ1.out; have := HK2.out; have := cv.out; have := bU.out; have := cI.out; omega
                    case rel => exact ⟨(wrap64 (ae + 1)), y3_, H', ⟨by have := HJ1.out; have := HK2.out; have := cv.out; have := bU.out; have := cI.out; omega⟩, y5_⟩)
                  try(
                    clear dg; go_ret
                    exact ⟨y3_, y5_⟩))
        ·obtain rfl := Option.some.inj H; have a5 : 0 ≤ (ae : Int) := of_decide_eq_true y1_; have a6 : ae < (l0.length : Int) := of_decide_eq_true y1_; (try clear aA aB ak); (try clear be bf bg); (try clear bV bW bX)
         obtain ⟨a3, cd, ce, cf, aG, aH, ar, aK, aL⟩ := nC a4.out ae a5 a6; cases cf; have bQ := a_ aL; have bR := a_ aK; clear aL aK; replace a5 := eq_true a5; replace a6 := eq_true a6; have a7 : 0 ≤ (ae : Int) := of_decide_eq_true y1_; have a8 : ae < (l0.length : Int) := of_decide_eq_true y1_; (try clear be bf bg); (try clear bV bW bX)
         obtain ⟨bL, cg, ch, ci, aA, aB, ak, aM, aN⟩ := nC a4.out ae a7 a8; obtain rfl : a3 = bL := (by injection ci); have bS := a_ aN; have bT := a_ aM; clear aN aM; replace a7 := eq_true a7; replace a8 := eq_true a8; have ea_ := Option.some.inj (ar.symm.trans ak); injection ea_ with ea_ en_ ec_; subst ea_; subst ec_; clear en_; go_wp2_with (first | ((with_reducible refine gm (f := 43) rfl ?_); refine gc_ 43 28 Tryz.func43 #[.string ((fJ l0 ae).f0)] ?_; (with_reducible refine (iK.calls k2 ((fJ l0 ae).f0) cL _ cM.out).mono ?_); rintro e w' ⟨rfl, ⟨nd, rfl⟩⟩; refine ⟨_, rfl, ?_⟩))
         go_ret
         exact ⟨y3_, y5_⟩
      ·obtain rfl := Option.some.inj H; go_wp2
       go_ret
       exact ⟨y3_, y5_⟩

/-! ### kN: function 7 -/
def kN.f (k : Nat) (l0 : List (S33)) : Option (Int) := (gp.f k l0).bind fun bM => (some bM)
theorem kN.mono : ∀ a0 k, LeO (kN.f k a0) (kN.f (k + 1) a0) := by
  intro a0 k
  unfold kN.f
  repeat' (with_reducible first | exact gp.mono _ _ | exact LeO.refl _ | exact LeO.none _ | refine LeO.ite ?_ ?_ | refine LeO.bind ?_ (fun _ => ?_))
theorem kN.calls (k : Nat) (A0 : Option Addr) (c0 : Nat) (l0 : List (S33)) (r : Int) (w : World) (bF : Kd.C k33 w A0 l0.length l0) (hc0 : l0.length ≤ c0) (h : kN.f k l0 = some r) :
    Calls Tryz.prog 7 #[.slice A0 l0.length c0] w fun e w' => e = .returned (.int .i64 r) ∧ jP w w' := by
 have a4 := a_ bF; have bO := a_ hc0; clear bF hc0; have H : ((gp.f k l0).bind fun bM => (some bM)) = some r := h; clear h; replace H := bd_ H; obtain ⟨bM, A2, H⟩ := H; obtain rfl := Option.some.inj H; go_enter Tryz.func7, Tryz.ntmps7
 go_wp2_with (first | ((with_reducible refine gm (f := 23) rfl ?_); refine gc_ 23 4 Tryz.func23 #[.slice A0 l0.length c0] ?_; (with_reducible refine (gp.calls k _ _ l0 bM _ ?side1 ?side2 A2.out).mono ?_); (case side1 => repeat (first | exact a4.out | (with_reducible refine Kd.jh ?_ _) | (with_reducible refine Kd.jk ?_ _) | (with_reducible refine Kd.jK ?_))); (case side2 => exact bO.out); rintro e w' ⟨rfl, ⟨nd, rfl⟩⟩; refine ⟨_, rfl, ?_⟩))
 go_ret
 exact ⟨y3_, y5_⟩

/-! ### mM: function 24 -/
def mM.f (a0 : Int) (a1 : Int) : Option (Bool) := (kR.f a0 0 (wrap64 (a1 - 1))).bind fun bN => (some bN)
theorem mM.calls (a0 : Int) (a1 : Int) (r : Bool) (w : World) (h : mM.f a0 a1 = some r) :
    Calls Tryz.prog 24 #[.int .i64 a0, .int .i64 a1] w fun e w' => e = .returned (.bool r) ∧ jP w w' := by
 have H : ((kR.f a0 0 (wrap64 (a1 - 1))).bind fun bN => (some bN)) = some r := h; clear h; replace H := bd_ H; obtain ⟨bN, A3, H⟩ := H; obtain rfl := Option.some.inj H; go_enter Tryz.func24, Tryz.ntmps24
 go_wp2_with (first | ((with_reducible refine gm (f := 16) rfl ?_); refine gc_ 16 8 Tryz.func16 #[.int .i64 a0, .int .i64 0, .int .i64 (wrap64 (a1 - 1))] ?_; (with_reducible refine (kR.calls a0 0 (wrap64 (a1 - 1)) bN _ A3.out).mono ?_); rintro e w' ⟨rfl, ⟨nd, rfl⟩⟩; refine ⟨_, rfl, ?_⟩))
 go_ret
 exact ⟨y3_, y5_⟩

end Go.Proofs.YtbibioffldkanaaGreatDoor.K
