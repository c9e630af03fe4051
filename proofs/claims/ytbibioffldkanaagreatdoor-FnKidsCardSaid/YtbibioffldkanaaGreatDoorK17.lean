-- Written by a program of this session's own (xp.py) for this seat.
import Derived.Test.YtbibioffldkanaaGreatDoorK0
namespace Go.Proofs.YtbibioffldkanaaGreatDoor.K
open Go.RowKit Go.Proofs.YtbibioffldkanaaGreatDoorW.PrintWords Go.Proofs.YtbibioffldkanaaGreatDoorW.PrintLast Go.Proofs.YtbibioffldkanaaGreatDoorW.PrintMore
attribute [local go_sem] Instr.field asAgg
attribute [local go_sem] lS lQ mY mX lm lq lT lU   -- for this text's walks alone
set_option maxHeartbeats 8000000
set_option maxRecDepth 100000
set_option linter.unusedVariables false
set_option linter.unusedSimpArgs false

/-! ### fB: function 60 -/
mutual
def fB.j0 : Nat → ByteArray → Int → Bool → Option (List ByteArray × Bool × Bool)
  | 0, _, _, _ => none
  | k + 1, x0, x5, c8 => if c8 = true then (some (([] : List ByteArray), false, false)) else (if 0 ≤ (wrap64 (x5 - 1)) then (if (wrap64 (x5 - 1)) < (x0.size : Int) then (if (bt x0 (wrap64 (x5 - 1))) = 47 then (fB.j1 k x0 (wrap64 (x5 - 1)) true) else (fB.j1 k x0 x5 false)) else (none)) else (none))
def fB.j1 : Nat → ByteArray → Int → Bool → Option (List ByteArray × Bool × Bool)
  | 0, _, _, _ => none
  | k + 1, x0, x5, x6 => fB.l0 k x0 x5 x6 1
def fB.j3 : Nat → ByteArray → Int → Bool → Int → Option (List ByteArray × Bool × Bool)
  | 0, _, _, _, _ => none
  | k + 1, x0, x5, x6, x7 => if 1 ≤ x7 then (if x7 ≤ (x0.size : Int) then (fB.l1 k x0 x5 x6 x7 (([x0.extract 1 (x7 : Int).toNat] : List ByteArray))) else (none)) else (none)
def fB.l1 : Nat → ByteArray → Int → Bool → Int → List ByteArray → Option (List ByteArray × Bool × Bool)
  | 0, _, _, _, _, _ => none
  | k + 1, x0, x5, x6, x7, x8 => fB.l2 k x0 x5 x6 x7 x8 x7
def fB.j6 : Nat → ByteArray → Int → Bool → Int → List ByteArray → Int → Option (List ByteArray × Bool × Bool)
  | 0, _, _, _, _, _, _ => none
  | k + 1, x0, x5, x6, x7, x8, x9 => if x7 ≥ x5 then (some (x8, x6, true)) else (fB.l3 k x0 x5 x6 x7 x8 x9 x7)
def fB.j8 : Nat → ByteArray → Int → Bool → Int → List ByteArray → Int → Int → Option (List ByteArray × Bool × Bool)
  | 0, _, _, _, _, _, _, _ => none
  | k + 1, x0, x5, x6, x7, x8, x9, bb => if x9 = bb then (fB.j9 k x0 x5 x6 x7 x8 bb true) else (if (wrap64 (x7 + 1)) ≥ x5 then (fB.j9 k x0 x5 x6 x7 x8 bb true) else (if 0 ≤ (wrap64 (x7 + 1)) then (if (wrap64 (x7 + 1)) < (x0.size : Int) then (fB.j9 k x0 x5 x6 x7 x8 bb ((bt x0 (wrap64 (x7 + 1))) != 34)) else (none)) else (none)))
def fB.j9 : Nat → ByteArray → Int → Bool → Int → List ByteArray → Int → Bool → Option (List ByteArray × Bool × Bool)
  | 0, _, _, _, _, _, _, _ => none
  | k + 1, x0, x5, x6, x7, x8, bb, cI => if cI = true then (some (([] : List ByteArray), false, false)) else (fB.l4 k x0 x5 x6 x7 x8 bb (wrap64 (x7 + 2)) (wrap64 (x7 + 2)))
def fB.l4 : Nat → ByteArray → Int → Bool → Int → List ByteArray → Int → Int → Int → Option (List ByteArray × Bool × Bool)
  | 0, _, _, _, _, _, _, _, _ => none
  | k + 1, x0, x5, x6, x7, x8, bb, bZ, bh => if bh < x5 then (if 0 ≤ bh then (if bh < (x0.size : Int) then (if (bt x0 bh) = 34 then (if bh ≥ x5 then (some (([] : List ByteArray), false, false)) else (if 0 ≤ bb then (if bb ≤ x7 then (if x7 ≤ (x0.size : Int) then (if 0 ≤ bZ then (if bZ ≤ bh then (if bh ≤ (x0.size : Int) then ((some (([x0.extract (bb : Int).toNat (x7 : Int).toNat, x0.extract (bZ : Int).toNat (bh : Int).toNat] : List ByteArray) : List ByteArray)).bind fun cm => (if x8.length + cm.length < 8796093022208 then (fB.l1 k x0 x5 x6 (wrap64 (bh + 1)) (x8 ++ cm)) else (none))) else (none)) else (none)) else (none)) else (none)) else (none)) else (none))) else (fB.l4 k x0 x5 x6 x7 x8 bb bZ (wrap64 (bh + 1)))) else (none)) else (none)) else (if bh ≥ x5 then (some (([] : List ByteArray), false, false)) else (if 0 ≤ bb then (if bb ≤ x7 then (if x7 ≤ (x0.size : Int) then (if 0 ≤ bZ then (if bZ ≤ bh then (if bh ≤ (x0.size : Int) then ((some (([x0.extract (bb : Int).toNat (x7 : Int).toNat, x0.extract (bZ : Int).toNat (bh : Int).toNat] : List ByteArray) : List ByteArray)).bind fun cn => (if x8.length + cn.length < 8796093022208 then (fB.l1 k x0 x5 x6 (wrap64 (bh + 1)) (x8 ++ cn)) else (none))) else (none)) else (none)) else (none)) else (none)) else (none)) else (none)))
def fB.l3 : Nat → ByteArray → Int → Bool → Int → List ByteArray → Int → Int → Option (List ByteArray × Bool × Bool)
  | 0, _, _, _, _, _, _, _ => none
  | k + 1, x0, x5, x6, x7, x8, x9, bb => if x7 < x5 then (if 0 ≤ x7 then (if x7 < (x0.size : Int) then (if (bt x0 x7) = 61 then (fB.j8 k x0 x5 x6 x7 x8 x9 bb) else (fB.l3 k x0 x5 x6 (wrap64 (x7 + 1)) x8 x9 bb)) else (none)) else (none)) else (fB.j8 k x0 x5 x6 x7 x8 x9 bb)
def fB.l2 : Nat → ByteArray → Int → Bool → Int → List ByteArray → Int → Option (List ByteArray × Bool × Bool)
  | 0, _, _, _, _, _, _ => none
  | k + 1, x0, x5, x6, x7, x8, x9 => if x7 < x5 then (if 0 ≤ x7 then (if x7 < (x0.size : Int) then (if (bt x0 x7) = 32 then (fB.l2 k x0 x5 x6 (wrap64 (x7 + 1)) x8 x9) else (if (bt x0 x7) = 10 then (fB.l2 k x0 x5 x6 (wrap64 (x7 + 1)) x8 x9) else (fB.j6 k x0 x5 x6 x7 x8 x9))) else (none)) else (none)) else (fB.j6 k x0 x5 x6 x7 x8 x9)
def fB.l0 : Nat → ByteArray → Int → Bool → Int → Option (List ByteArray × Bool × Bool)
  | 0, _, _, _, _ => none
  | k + 1, x0, x5, x6, x7 => if x7 < x5 then (if 0 ≤ x7 then (if x7 < (x0.size : Int) then (if (bt x0 x7) = 32 then (fB.j3 k x0 x5 x6 x7) else (if (bt x0 x7) = 10 then (fB.j3 k x0 x5 x6 x7) else (fB.l0 k x0 x5 x6 (wrap64 (x7 + 1))))) else (none)) else (none)) else (fB.j3 k x0 x5 x6 x7)
end
def fB.f (k : Nat) (a0 : ByteArray) : Option (List ByteArray × Bool × Bool) := if (wrap64 ((a0.size : Int) - 1)) < 1 then (fB.j0 k a0 (wrap64 ((a0.size : Int) - 1)) true) else (if 0 < (a0.size : Int) then (if (bt a0 0) = 60 then (if 0 ≤ (wrap64 ((a0.size : Int) - 1)) then (if (wrap64 ((a0.size : Int) - 1)) < (a0.size : Int) then (fB.j0 k a0 (wrap64 ((a0.size : Int) - 1)) ((bt a0 (wrap64 ((a0.size : Int) - 1))) != 62)) else (none)) else (none)) else (fB.j0 k a0 (wrap64 ((a0.size : Int) - 1)) true)) else (none))
theorem fB.iQ : ∀ k, (∀ y0 y1 y2, LeO (fB.j0 k y0 y1 y2) (fB.j0 (k + 1) y0 y1 y2)) ∧ (∀ y0 y1 y2, LeO (fB.j1 k y0 y1 y2) (fB.j1 (k + 1) y0 y1 y2)) ∧ (∀ y0 y1 y2 y3, LeO (fB.j3 k y0 y1 y2 y3) (fB.j3 (k + 1) y0 y1 y2 y3)) ∧ (∀ y0 y1 y2 y3 y4, LeO (fB.l1 k y0 y1 y2 y3 y4) (fB.l1 (k + 1) y0 y1 y2 y3 y4)) ∧ (∀ y0 y1 y2 y3 y4 y5, LeO (fB.j6 k y0 y1 y2 y3 y4 y5) (fB.j6 (k + 1) y0 y1 y2 y3 y4 y5)) ∧ (∀ y0 y1 y2 y3 y4 y5 y6, LeO (fB.j8 k y0 y1 y2 y3 y4 y5 y6) (fB.j8 (k + 1) y0 y1 y2 y3 y4 y5 y6)) ∧ (∀ y0 y1 y2 y3 y4 y5 y6, LeO (fB.j9 k y0 y1 y2 y3 y4 y5 y6) (fB.j9 (k + 1) y0 y1 y2 y3 y4 y5 y6)) ∧ (∀ y0 y1 y2 y3 y4 y5 y6 y7, LeO (fB.l4 k y0 y1 y2 y3 y4 y5 y6 y7) (fB.l4 (k + 1) y0 y1 y2 y3 y4 y5 y6 y7)) ∧ (∀ y0 y1 y2 y3 y4 y5 y6, LeO (fB.l3 k y0 y1 y2 y3 y4 y5 y6) (fB.l3 (k + 1) y0 y1 y2 y3 y4 y5 y6)) ∧ (∀ y0 y1 y2 y3 y4 y5, LeO (fB.l2 k y0 y1 y2 y3 y4 y5) (fB.l2 (k + 1) y0 y1 y2 y3 y4 y5)) ∧ (∀ y0 y1 y2 y3, LeO (fB.l0 k y0 y1 y2 y3) (fB.l0 (k + 1) y0 y1 y2 y3))
  | 0 => ⟨fun _ _ _ r h => by simp [fB.j0] at h, fun _ _ _ r h => by simp [fB.j1] at h, fun _ _ _ _ r h => by simp [fB.j3] at h, fun _ _ _ _ _ r h => by simp [fB.l1] at h, fun _ _ _ _ _ _ r h => by simp [fB.j6] at h, fun _ _ _ _ _ _ _ r h => by simp [fB.j8] at h, fun _ _ _ _ _ _ _ r h => by simp [fB.j9] at h, fun _ _ _ _ _ _ _ _ r h => by simp [fB.l4] at h, fun _ _ _ _ _ _ _ r h => by simp [fB.l3] at h, fun _ _ _ _ _ _ r h => by simp [fB.l2] at h, fun _ _ _ _ r h => by simp [fB.l0] at h⟩
  | k + 1 => by
    obtain ⟨bl, bm, bn, bo, bp, bq, br, bs, bu, bv, aI⟩ := fB.iQ k
    refine ⟨?_, ?_, ?_, ?_, ?_, ?_, ?_, ?_, ?_, ?_, ?_⟩
    · intro y0 y1 y2
      unfold fB.j0
      repeat' (with_reducible first | exact bl _ _ _ | exact bm _ _ _ | exact bn _ _ _ _ | exact bo _ _ _ _ _ | exact bp _ _ _ _ _ _ | exact bq _ _ _ _ _ _ _ | exact br _ _ _ _ _ _ _ | exact bs _ _ _ _ _ _ _ _ | exact bu _ _ _ _ _ _ _ | exact bv _ _ _ _ _ _ | exact aI _ _ _ _ | exact LeO.refl _ | exact LeO.none _ | refine LeO.ite ?_ ?_ | refine LeO.bind ?_ (fun _ => ?_))
    · intro y0 y1 y2
      unfold fB.j1
      repeat' (with_reducible first | exact bl _ _ _ | exact bm _ _ _ | exact bn _ _ _ _ | exact bo _ _ _ _ _ | exact bp _ _ _ _ _ _ | exact bq _ _ _ _ _ _ _ | exact br _ _ _ _ _ _ _ | exact bs _ _ _ _ _ _ _ _ | exact bu _ _ _ _ _ _ _ | exact bv _ _ _ _ _ _ | exact aI _ _ _ _ | exact LeO.refl _ | exact LeO.none _ | refine LeO.ite ?_ ?_ | refine LeO.bind ?_ (fun _ => ?_))
    · intro y0 y1 y2 y3
      unfold fB.j3
      repeat' (with_reducible first | exact bl _ _ _ | exact bm _ _ _ | exact bn _ _ _ _ | exact bo _ _ _ _ _ | exact bp _ _ _ _ _ _ | exact bq _ _ _ _ _ _ _ | exact br _ _ _ _ _ _ _ | exact bs _ _ _ _ _ _ _ _ | exact bu _ _ _ _ _ _ _ | exact bv _ _ _ _ _ _ | exact aI _ _ _ _ | exact LeO.refl _ | exact LeO.none _ | refine LeO.ite ?_ ?_ | refine LeO.bind ?_ (fun _ => ?_))
    · intro y0 y1 y2 y3 y4
      unfold fB.l1
      repeat' (with_reducible first | exact bl _ _ _ | exact bm _ _ _ | exact bn _ _ _ _ | exact bo _ _ _ _ _ | exact bp _ _ _ _ _ _ | exact bq _ _ _ _ _ _ _ | exact br _ _ _ _ _ _ _ | exact bs _ _ _ _ _ _ _ _ | exact bu _ _ _ _ _ _ _ | exact bv _ _ _ _ _ _ | exact aI _ _ _ _ | exact LeO.refl _ | exact LeO.none _ | refine LeO.ite ?_ ?_ | refine LeO.bind ?_ (fun _ => ?_))
    · intro y0 y1 y2 y3 y4 y5
      unfold fB.j6
      repeat' (with_reducible first | exact bl _ _ _ | exact bm _ _ _ | exact bn _ _ _ _ | exact bo _ _ _ _ _ | exact bp _ _ _ _ _ _ | exact bq _ _ _ _ _ _ _ | exact br _ _ _ _ _ _ _ | exact bs _ _ _ _ _ _ _ _ | exact bu _ _ _ _ _ _ _ | exact bv _ _ _ _ _ _ | exact aI _ _ _ _ | exact LeO.refl _ | exact LeO.none _ | refine LeO.ite ?_ ?_ | refine LeO.bind ?_ (fun _ => ?_))
    · intro y0 y1 y2 y3 y4 y5 y6
      unfold fB.j8
      repeat' (with_reducible first | exact bl _ _ _ | exact bm _ _ _ | exact bn _ _ _ _ | exact bo _ _ _ _ _ | exact bp _ _ _ _ _ _ | exact bq _ _ _ _ _ _ _ | exact br _ _ _ _ _ _ _ | exact bs _ _ _ _ _ _ _ _ | exact bu _ _ _ _ _ _ _ | exact bv _ _ _ _ _ _ | exact aI _ _ _ _ | exact LeO.refl _ | exact LeO.none _ | refine LeO.ite ?_ ?_ | refine LeO.bind ?_ (fun _ => ?_))
    · intro y0 y1 y2 y3 y4 y5 y6
      unfold fB.j9
      repeat' (with_reducible first | exact bl _ _ _ | exact bm _ _ _ | exact bn _ _ _ _ | exact bo _ _ _ _ _ | exact bp _ _ _ _ _ _ | exact bq _ _ _ _ _ _ _ | exact br _ _ _ _ _ _ _ | exact bs _ _ _ _ _ _ _ _ | exact bu _ _ _ _ _ _ _ | exact bv _ _ _ _ _ _ | exact aI _ _ _ _ | exact LeO.refl _ | exact LeO.none _ | refine LeO.ite ?_ ?_ | refine LeO.bind ?_ (fun _ => ?_))
    · intro y0 y1 y2 y3 y4 y5 y6 y7
      unfold fB.l4
      repeat' (with_reducible first | exact bl _ _ _ | exact bm _ _ _ | exact bn _ _ _ _ | exact bo _ _ _ _ _ | exact bp _ _ _ _ _ _ | exact bq _ _ _ _ _ _ _ | exact br _ _ _ _ _ _ _ | exact bs _ _ _ _ _ _ _ _ | exact bu _ _ _ _ _ _ _ | exact bv _ _ _ _ _ _ | exact aI _ _ _ _ | exact LeO.refl _ | exact LeO.none _ | refine LeO.ite ?_ ?_ | refine LeO.bind ?_ (fun _ => ?_))
    · intro y0 y1 y2 y3 y4 y5 y6
      unfold fB.l3
      repeat' (with_reducible first | exact bl _ _ _ | exact bm _ _ _ | exact bn _ _ _ _ | exact bo _ _ _ _ _ | exact bp _ _ _ _ _ _ | exact bq _ _ _ _ _ _ _ | exact br _ _ _ _ _ _ _ | exact bs _ _ _ _ _ _ _ _ | exact bu _ _ _ _ _ _ _ | exact bv _ _ _ _ _ _ | exact aI _ _ _ _ | exact LeO.refl _ | exact LeO.none _ | refine LeO.ite ?_ ?_ | refine LeO.bind ?_ (fun _ => ?_))
    · intro y0 y1 y2 y3 y4 y5
      unfold fB.l2
      repeat' (with_reducible first | exact bl _ _ _ | exact bm _ _ _ | exact bn _ _ _ _ | exact bo _ _ _ _ _ | exact bp _ _ _ _ _ _ | exact bq _ _ _ _ _ _ _ | exact br _ _ _ _ _ _ _ | exact bs _ _ _ _ _ _ _ _ | exact bu _ _ _ _ _ _ _ | exact bv _ _ _ _ _ _ | exact aI _ _ _ _ | exact LeO.refl _ | exact LeO.none _ | refine LeO.ite ?_ ?_ | refine LeO.bind ?_ (fun _ => ?_))
    · intro y0 y1 y2 y3
      unfold fB.l0
      repeat' (with_reducible first | exact bl _ _ _ | exact bm _ _ _ | exact bn _ _ _ _ | exact bo _ _ _ _ _ | exact bp _ _ _ _ _ _ | exact bq _ _ _ _ _ _ _ | exact br _ _ _ _ _ _ _ | exact bs _ _ _ _ _ _ _ _ | exact bu _ _ _ _ _ _ _ | exact bv _ _ _ _ _ _ | exact aI _ _ _ _ | exact LeO.refl _ | exact LeO.none _ | refine LeO.ite ?_ ?_ | refine LeO.bind ?_ (fun _ => ?_))
theorem fB.mono : ∀ a0 k, LeO (fB.f k a0) (fB.f (k + 1) a0) := by
  intro a0 k
  obtain ⟨bl, bm, bn, bo, bp, bq, br, bs, bu, bv, aI⟩ := fB.iQ k
  unfold fB.f
  repeat' (with_reducible first | exact bl _ _ _ | exact bm _ _ _ | exact bn _ _ _ _ | exact bo _ _ _ _ _ | exact bp _ _ _ _ _ _ | exact bq _ _ _ _ _ _ _ | exact br _ _ _ _ _ _ _ | exact bs _ _ _ _ _ _ _ _ | exact bu _ _ _ _ _ _ _ | exact bv _ _ _ _ _ _ | exact aI _ _ _ _ | exact LeO.refl _ | exact LeO.none _ | refine LeO.ite ?_ ?_ | refine LeO.bind ?_ (fun _ => ?_))
def fB.T27 : Bool × List (List Nat × List Nat) := (true, [([], []), ([], []), ([], []), ([], []), ([1, 2, 3], [1, 2, 3]), ([], []), ([], []), ([], []), ([5, 6, 7], [5, 6, 7]), ([4, 8], [4, 8]), ([0, 9], [0, 9]), ([10, 10, 0, 1, 2, 3, 4, 5, 6, 7, 8, 9, 10], [0, 10])])
def fB.B27 : List Nat := [0, 0, 0, 0, 14, 0, 0, 0, 224, 510, 1023, 2047]
theorem fB.MO : o8 .any (opsOf Tryz.f60 27) = fB.T27 := by kernel_rfl
theorem fB.KJ : ou fB.T27.2 fB.B27 = true := by kernel_rfl
theorem fB.calls (k : Nat) (a0 : ByteArray) (r1 : List ByteArray) (r2 : Bool) (r3 : Bool) (w : World) (h : fB.f k a0 = some (r1, r2, r3)) :
    Calls Tryz.prog 60 #[.string a0] w fun e w' => ∃ v0_ : Value, e = .returned (.tuple #[v0_, .bool r2, .bool r3]) ∧ Kd.R Kd.string 9 w' w.heap.size (fun _ => True) v0_ r1 ∧ Below w.heap.size w w' := by
 have HB := a_ (Below.refl w.heap.size w); have H : (if (wrap64 ((a0.size : Int) - 1)) < 1 then (fB.j0 k a0 (wrap64 ((a0.size : Int) - 1)) true) else (if 0 < (a0.size : Int) then (if (bt a0 0) = 60 then (if 0 ≤ (wrap64 ((a0.size : Int) - 1)) then (if (wrap64 ((a0.size : Int) - 1)) < (a0.size : Int) then (fB.j0 k a0 (wrap64 ((a0.size : Int) - 1)) ((bt a0 (wrap64 ((a0.size : Int) - 1))) != 62)) else (none)) else (none)) else (fB.j0 k a0 (wrap64 ((a0.size : Int) - 1)) true)) else (none))) = some (r1, r2, r3) := h; clear h; have cJ := a_ H; clear H; go_enter Tryz.func60, Tryz.ntmps60
 go_upto_region 2 with (fail)
 go_cut [28] (fun c9 wc => ∃ (kq : Nat) (bi : Bool), c9 = .bool bi ∧ fD (fB.j0 kq a0 (wrap64 ((a0.size : Int) - 1)) bi = some (r1, r2, r3)) ∧ fD (kq ≤ k) ∧ fD (Below w.heap.size w wc))
 case first =>
  have H := cJ.out; clear cJ; replace H := id_ H; obtain ⟨aZ, -, H⟩ | ⟨aZ, -, H⟩ := H; (first | rw [aZ] | (simp only [jm, jr]; rw [aZ]) | skip); have H' := a_ H; clear H; have b0 := t_; rotate_left; (first | rw [aZ] | (simp only [jm, jr]; rw [aZ]) | skip); replace H := kd_ H; obtain ⟨aC, bC, H⟩ := H; have c6 : decide (0 < a0.size) = true := decide_eq_true jv; clear bC; replace H := ie_ H; obtain ⟨ay, co, -, H⟩ | ⟨ay, co, bR, H⟩ := H; obtain ⟨bV, bw⟩ : ∃ j_ : Int, (wrap64 ((a0.size : Int) - 1)) = j_ := ⟨_, rfl⟩; replace H : (if 0 ≤ (bV) then (if (bV) < (a0.size : Int) then (fB.j0 k a0 bV ((bt a0 (bV)) != 62)) else (none)) else (none)) = some (r1, r2, r3) := by first | (rw [bw] at H; exact H) | (simp only [bw] at H ⊢; exact H)
  (try rw [bw] at aZ); have c7 : (IntKind.i64.wrap ((a0.size : Int) - 1)) = bV := (jm _).trans bw; replace H := kd_ H; obtain ⟨ak, -, H⟩ := H; replace H := kd_ H; obtain ⟨aG, -, H⟩ := H; have H' := a_ H; clear H; obtain ⟨bT, cK⟩ := t2_; rotate_left
  have H' := a_ H; clear H; obtain ⟨bT, cL⟩ := t2_; rotate_left
  all_goals (
   try(
     clear b0; go_wp2
     go_meet
     case rel => exact ⟨_, (true), y3_, H', ⟨yU⟩, ⟨y0_⟩⟩)
   try(clear bT; have ab : 0 ≤ (0 : Int) := jv; have aa : 0 < a0.size := (by have : (0 : Int) < (a0.size : Int) := of_decide_eq_true y1_; omega); have ac : ∀ h : 0 < a0.size, ((a0[0]'h).toNat : Int) = bt a0 0 := lL a0 0; clear ab; have ck : (0 < (a0.size : Int)) = True := eq_true (of_decide_eq_true y1_); replace aa := eq_true aa)
   try(
     clear cK; have ap : 0 ≤ ((bV) : Int) := of_decide_eq_true y1_; have aq : (bV) < (a0.size : Int) := of_decide_eq_true y1_; have a1 := lL a0 (bV); replace ap := eq_true ap; replace aq := eq_true aq; go_wp2
     go_meet
     case rel => (subst bw; exact ⟨_, _, (by first | rfl | (simp; done) | (simp only [← bw] <;> (first | rfl | simp)) | (simp [*]; done)), H', ⟨yU⟩, ⟨y0_⟩⟩))
   try(
     clear cL; go_wp2
     go_meet
     case rel => exact ⟨_, (true), y3_, H', ⟨yU⟩, ⟨y0_⟩⟩))
 case rest =>
  clear cJ; (try clear bS); obtain ⟨kq, bi, rfl, HA, HJ1, HB⟩ := hcut; cases kq with
  | zero => exact absurd HA.out (by simp [fB.j0])
  | succ cM =>
   have H := HA.out; clear HA; simp only [fB.j0] at H; by_cases bj : bi = true; subst bj; rw [if_pos rfl] at H; replace H := j3_ H; obtain ⟨rfl, rfl, rfl⟩ := H; have b0 := t_; rotate_left; replace bj := Bool.eq_false_iff.mpr bj; subst bj; rw [if_neg (show ¬ (false = true) by decide)] at H; obtain ⟨ba, hji12⟩ : ∃ j_ : Int, (wrap64 ((wrap64 ((a0.size : Int) - 1)) - 1)) = j_ := ⟨_, rfl⟩; replace H : (if 0 ≤ (ba) then (if (ba) < (a0.size : Int) then (if (bt a0 (ba)) = 47 then (fB.j1 cM a0 ba true) else (fB.j1 cM a0 (wrap64 ((a0.size : Int) - 1)) false)) else (none)) else (none)) = some (r1, r2, r3) := by first | (rw [hji12] at H; exact H) | (simp only [hji12] at H ⊢; exact H)
   have cN : (IntKind.i64.wrap ((wrap64 ((a0.size : Int) - 1)) - 1)) = ba := (jm _).trans hji12; replace H := kd_ H; obtain ⟨aC, -, H⟩ := H; replace H := kd_ H; obtain ⟨ay, -, H⟩ := H; have b1 := a_ H; clear H; have bT := t_; rotate_left
   all_goals (
    try(
      clear b0; go_wp2
      go_ret3
      exact ⟨_, y6_, yY, y0_⟩)
    try(
      clear bT; have ab : 0 ≤ ((ba) : Int) := of_decide_eq_true y1_; have aa : (ba) < (a0.size : Int) := of_decide_eq_true y1_; have ac := lL a0 (ba); replace ab := eq_true ab; replace aa := eq_true aa; go_upto_if 34 with (fail)
      go_cut [5, 6] (fun bD bE wc => ∃ (kq : Nat) (al : Int) (am : Bool), bD = .int .i64 al ∧ bE = .bool am ∧ fD (fB.j1 kq a0 al am = some (r1, r2, r3)) ∧ fD (kq ≤ cM) ∧ fD (Below w.heap.size w wc))
      case first =>
       have H := b1.out; clear b1; replace H := ie_ H; obtain ⟨ak, aH, -, H⟩ | ⟨ak, aH, bx, H⟩ := H
       ·(first | rw [ak] | (simp only [jm, jr]; rw [ak]) | skip); have H' := a_ H; clear H; go_wp2
        go_meet
        case rel => exact ⟨_, (ba), (true), (by first | rfl | (simp; done) | (simp only [← hji12] <;> (first | rfl | simp)) | (simp [*]; done)), y3_, H', ⟨by have := HJ1.out; first | omega | exact Nat.le_refl _⟩, ⟨y0_⟩⟩
       ·(first | rw [ak] | (simp only [jm, jr]; rw [ak]) | skip); have H' := a_ H; clear H; go_wp2
        go_meet
        case rel => exact ⟨_, ((wrap64 ((a0.size : Int) - 1))), (false), y3_, y3_, H', ⟨by have := HJ1.out; first | omega | exact Nat.le_refl _⟩, ⟨y0_⟩⟩
      case rest =>
       clear b1; (try clear bS); (try clear bj); (try clear bC); (try clear aC); (try clear bR); (try clear ay); (try clear ab); (try clear aa); (try clear ac); (try clear ab); (try clear aa); obtain ⟨kq, al, am, rfl, rfl, HA, HJ15, HB⟩ := hcut; cases kq with
       | zero => exact absurd HA.out (by simp [fB.j1])
       | succ b2 =>
        have H := HA.out; clear HA; simp only [fB.j1] at H; have aJ := a_ H; clear H; go_upto_block 0 with (fail)
        go_cut [7] (fun ae wc => ∃ (kq : Nat) (az : Int), ae = .int .i64 az ∧ fD (fB.j3 kq a0 al am az = some (r1, r2, r3)) ∧ fD (kq ≤ b2) ∧ fD (Below w.heap.size w wc))
        case first =>
         have H := aJ.out; clear aJ; have H' := a_ H; clear H; go_wp2
         go_loopg [7] b2 (fun kq ae w' => ∃ (aW : Int), ae = .int .i64 aW ∧ fD (fB.l0 kq a0 al am aW = some (r1, r2, r3)) ∧ fD (kq ≤ b2) ∧ fD (Below w.heap.size w w'))
         case atStart => exact ⟨(1), y3_, H', ⟨Nat.le_refl _⟩, ⟨y0_⟩⟩
         case round =>
          clear H'; (try clear bS); (try clear bj); (try clear bC); (try clear aC); (try clear bR); (try clear ay); (try clear ab); (try clear aa); (try clear ac); (try clear ab); (try clear aa); obtain ⟨aW, rfl, HA, aK, HB⟩ := hrel; cases gk with
          | zero => exact absurd HA.out (by simp [fB.l0])
          | succ k3 =>
           have H := HA.out; clear HA; simp only [fB.l0] at H; replace H := id_ H; obtain ⟨ak, -, H⟩ | ⟨ak, -, H⟩ := H; (first | rw [ak] | (simp only [jm, jr]; rw [ak]) | skip); replace H := kd_ H; obtain ⟨aG, -, H⟩ := H; replace H := kd_ H; obtain ⟨aA, -, H⟩ := H; replace H := ie_ H; obtain ⟨aw, bF, -, H⟩ | ⟨aw, bF, b3, H⟩ := H; have H' := a_ H; clear H; obtain ⟨b4, b5⟩ := t2_; rotate_left; replace H := ie_ H; obtain ⟨aU, cp, -, H⟩ | ⟨aU, cp, dc, H⟩ := H; have H' := a_ H; clear H; obtain ⟨b4, cq, b5⟩ := t3_; rotate_left; have H' := a_ H; clear H; obtain ⟨b4, cq, cO⟩ := t3_; rotate_left
           (first | rw [ak] | (simp only [jm, jr]; rw [ak]) | skip); have H' := a_ H; clear H; have b5 := t_; rotate_left
           all_goals (
            try(clear b4; have ab : 0 ≤ (aW : Int) := of_decide_eq_true y1_; have aa : aW < (a0.size : Int) := of_decide_eq_true y1_; have ac := lL a0 aW; replace ab := eq_true ab; replace aa := eq_true aa)
            try(clear cq; have ap : 0 ≤ (aW : Int) := of_decide_eq_true y1_; have aq : aW < (a0.size : Int) := of_decide_eq_true y1_; have a1 := lL a0 aW; replace ap := eq_true ap; replace aq := eq_true aq)
            go_wp2
            try(
              clear b5; go_meet
              case rel => exact ⟨_, (aW), y3_, H', ⟨by have := HJ1.out; have := HJ15.out; have := aK.out; first | omega | exact Nat.le_refl _⟩, ⟨y0_⟩⟩)
            try(
              clear cO; go_roundg k3
              case measure => have := HJ1.out; have := HJ15.out; have := aK.out; omega
              case rel => exact ⟨(wrap64 (aW + 1)), y3_, H', ⟨by have := HJ1.out; have := HJ15.out; have := aK.out; omega⟩, ⟨y0_⟩⟩))
        case rest =>
         clear aJ; (try clear bS); (try clear bj); (try clear bC); (try clear aC); (try clear bR); (try clear ay); (try clear ab); (try clear aa); (try clear ac); (try clear ab); (try clear aa); obtain ⟨kq, az, rfl, HA, HJ17, HB⟩ := hcut; cases kq with
         | zero => exact absurd HA.out (by simp [fB.j3])
         | succ b6 =>
          have H := HA.out; clear HA; simp only [fB.j3] at H; by_cases bx : 1 ≤ az
          ·rw [if_pos bx] at H; have ak := eq_true bx; have aH : decide (1 ≤ az) = true := decide_eq_true bx; clear bx; replace H := kq_ H; obtain ⟨aG, aX, -, H⟩ := H
           ·obtain ⟨bc, hy_⟩ : ∃ y_ : List ByteArray, y_ = (([a0.extract 1 (az : Int).toNat] : List ByteArray)) := ⟨_, rfl⟩; replace H : (fB.l1 b6 a0 al am az bc) = some (r1, r2, r3) := z0_; have a2 := a_ hy_; clear hy_; have H' := a_ H; clear H; go_wp2_with (first | ((with_reducible refine iW (N := 57) rfl ?_); refine Kd.oP Kd.string _ 9 ?hg (N := 57) ?hd (xs := ([a0.extract 1 (az : Int).toNat] : List ByteArray)) (inner := [.string (a0.extract 1 (az : Int).toNat)]) (ok := fun _ => True) (okp := fun _ => True) ?hr ?hp (fun _ hk => hk) trivial (Below.refl _ _) (Nat.le_refl _) lI ?_; (case hd => rfl); (case hg => rfl); (case hr => first | (go_simp; done) | (go_simp; rfl)); (case hp => exact (iV.one (show Kd.M Kd.string _ _ _ (a0.extract 1 (az : Int).toNat) [.string (a0.extract 1 (az : Int).toNat)] from rfl) (iV.none _ _))); intro cr ct ax hb hg_ hnew_; clear hg_ hnew_; (first | rw [← a2.out] at ax | (simp only [Int.reduceToNat] at ax; rw [← a2.out] at ax)); have n_ := s2_ (Kd.jQ ax (fV y0_)) (fZ y0_ hb); clear HB; obtain ⟨bz, HB⟩ := n_; clear hb ax))
            go_loopg [7, 8] b6 (fun kq ae bG w' => ∃ (bd : Int) (ao : List ByteArray), ae = .int .i64 bd ∧ fD (fB.l1 kq a0 al am bd ao = some (r1, r2, r3)) ∧ fD (kq ≤ b6) ∧ fD (Kd.R Kd.string 9 w' w.heap.size (fun _ => True) bG ao) ∧ fD (Below w.heap.size w w'))
            case atStart => exact ⟨(az), (bc), y3_, H', ⟨Nat.le_refl _⟩, ⟨by (with_reducible repeat (first | apply Kd.iq | apply Kd.gY | apply Kd.iE)); exact bz.out⟩, ⟨y0_⟩⟩
            case round =>
             clear H'; (try clear bS); (try clear bj); (try clear bC); (try clear aC); (try clear bR); (try clear ay); (try clear ab); (try clear aa); (try clear ac); (try clear bx); (try clear ak); (try clear aH); (try clear cl); (try clear aG); (try clear aX); (try clear ab); (try clear aa); obtain ⟨bd, ao, rfl, HA, HK9175678, HO_8, HB⟩ := hrel; cases gk with
             | zero => exact absurd HA.out (by simp [fB.l1])
             | succ k4 =>
              have H := HA.out; clear HA; simp only [fB.l1] at H; have aM := a_ H; clear H; go_upto_block 4 with (fail)
              go_cut [7] (fun ae wc => ∃ (kq : Nat) (aj : Int), ae = .int .i64 aj ∧ fD (fB.j6 kq a0 al am aj ao bd = some (r1, r2, r3)) ∧ fD (kq ≤ k4) ∧ fD (Kd.R Kd.string 9 wc w.heap.size (fun _ => True) u8 ao) ∧ fD (Below w.heap.size w wc))
              case first =>
               have H := aM.out; clear aM; have H' := a_ H; clear H; go_wp2
               go_loopg [7] k4 (fun kq ae w' => ∃ (aY : Int), ae = .int .i64 aY ∧ fD (fB.l2 kq a0 al am aY ao bd = some (r1, r2, r3)) ∧ fD (kq ≤ k4) ∧ fD (Kd.R Kd.string 9 w' w.heap.size (fun _ => True) u8 ao) ∧ fD (Below w.heap.size w w'))
               case atStart => exact ⟨(bd), y3_, H', ⟨Nat.le_refl _⟩, ⟨xM⟩, ⟨y0_⟩⟩
               case round =>
                clear H'; (try clear bS); (try clear bj); (try clear bC); (try clear aC); (try clear bR); (try clear ay); (try clear ab); (try clear aa); (try clear ac); (try clear bx); (try clear ak); (try clear aH); (try clear cl); (try clear aG); (try clear aX); (try clear ab); (try clear aa); obtain ⟨aY, rfl, HA, aN, HO_8, HB⟩ := hrel; cases gk with
                | zero => exact absurd HA.out (by simp [fB.l2])
                | succ k5 =>
                 have H := HA.out; clear HA; simp only [fB.l2] at H; replace H := id_ H; obtain ⟨aA, -, H⟩ | ⟨aA, -, H⟩ := H; (first | rw [aA] | (simp only [jm, jr]; rw [aA]) | skip); replace H := kd_ H; obtain ⟨aw, -, H⟩ := H; replace H := kd_ H; obtain ⟨aU, -, H⟩ := H; replace H := ie_ H; obtain ⟨a3, cu, -, H⟩ | ⟨a3, cu, dd, H⟩ := H; have H' := a_ H; clear H; obtain ⟨b7, b8, cv⟩ := t3_; rotate_left; replace H := ie_ H; obtain ⟨a4, bk, -, H⟩ | ⟨a4, bk, da, H⟩ := H; have H' := a_ H; clear H; obtain ⟨b7, cw, b8, cv⟩ := t4_; rotate_left; have H' := a_ H; clear H; obtain ⟨b7, cw, b8, cx⟩ := t4_; rotate_left
                 (first | rw [aA] | (simp only [jm, jr]; rw [aA]) | skip); have H' := a_ H; clear H; obtain ⟨cP, cx⟩ := t2_; rotate_left
                 all_goals (
                  try(clear b7; have ab : 0 ≤ (aY : Int) := of_decide_eq_true y1_; have aa : aY < (a0.size : Int) := of_decide_eq_true y1_; have ac := lL a0 aY; replace ab := eq_true ab; replace aa := eq_true aa)
                  try(clear cw; have ap : 0 ≤ (aY : Int) := of_decide_eq_true y1_; have aq : aY < (a0.size : Int) := of_decide_eq_true y1_; have a1 := lL a0 aY; replace ap := eq_true ap; replace aq := eq_true aq)
                  try(clear b8; go_wp2)
                  try(
                    clear cv; go_roundg k5
                    case measure => have := HJ1.out; have := HJ15.out; have := HJ17.out; have := HK9175678.out; have := aN.out; omega
                    case rel => exact ⟨(wrap64 (aY + 1)), y3_, H', ⟨by have := HJ1.out; have := HJ15.out; have := HJ17.out; have := HK9175678.out; have := aN.out; omega⟩, ⟨xM⟩, ⟨y0_⟩⟩)
                  try(clear cP; go_wp2)
                  try(
                    clear cx; go_meet
                    case rel => exact ⟨_, (aY), y3_, H', ⟨by have := HJ1.out; have := HJ15.out; have := HJ17.out; have := HK9175678.out; have := aN.out; first | omega | exact Nat.le_refl _⟩, ⟨xM⟩, ⟨y0_⟩⟩))
              case rest =>
               clear aM; (try clear bS); (try clear bj); (try clear bC); (try clear aC); (try clear bR); (try clear ay); (try clear ab); (try clear aa); (try clear ac); (try clear bx); (try clear ak); (try clear aH); (try clear cl); (try clear aG); (try clear aX); (try clear ab); (try clear aa); obtain ⟨kq, aj, rfl, HA, HJ29, HO_8, HB⟩ := hcut; cases kq with
               | zero => exact absurd HA.out (by simp [fB.j6])
               | succ b9 =>
                have H := HA.out; clear HA; simp only [fB.j6] at H; replace H := tC H; obtain ⟨aA, -, H⟩ | ⟨aA, -, H⟩ := H
                ·replace H := j3_ H; obtain ⟨rfl, rfl, rfl⟩ := H; go_wp2
                 go_ret3
                 exact ⟨_, Lt, xM, y0_⟩
                ·have aP := a_ H; clear H; go_upto_block 6 with (fail)
                 go_cut [7] (fun ae wc => ∃ (kq : Nat) (af : Int), ae = .int .i64 af ∧ fD (fB.j8 kq a0 al am af ao bd aj = some (r1, r2, r3)) ∧ fD (kq ≤ b9) ∧ fD (Kd.R Kd.string 9 wc w.heap.size (fun _ => True) u8 ao) ∧ fD (Below w.heap.size w wc))
                 case first =>
                  have H := aP.out; clear aP; have H' := a_ H; clear H; go_wp2
                  go_loopg [7] b9 (fun kq ae w' => ∃ (be : Int), ae = .int .i64 be ∧ fD (fB.l3 kq a0 al am be ao bd aj = some (r1, r2, r3)) ∧ fD (kq ≤ b9) ∧ fD (Kd.R Kd.string 9 w' w.heap.size (fun _ => True) u8 ao) ∧ fD (Below w.heap.size w w'))
                  case atStart => exact ⟨(aj), y3_, H', ⟨Nat.le_refl _⟩, ⟨xM⟩, ⟨y0_⟩⟩
                  case round =>
                   clear H'; (try clear bS); (try clear bj); (try clear bC); (try clear aC); (try clear bR); (try clear ay); (try clear ab); (try clear aa); (try clear ac); (try clear bx); (try clear ak); (try clear aH); (try clear cl); (try clear aG); (try clear aX); (try clear cQ); (try clear aA); (try clear ab); (try clear aa); obtain ⟨be, rfl, HA, aQ, HO_8, HB⟩ := hrel; cases gk with
                   | zero => exact absurd HA.out (by simp [fB.l3])
                   | succ k6 =>
                    have H := HA.out; clear HA; simp only [fB.l3] at H; replace H := id_ H; obtain ⟨aw, -, H⟩ | ⟨aw, -, H⟩ := H; (first | rw [aw] | (simp only [jm, jr]; rw [aw]) | skip); replace H := kd_ H; obtain ⟨aU, -, H⟩ := H; replace H := kd_ H; obtain ⟨a3, -, H⟩ := H; replace H := ie_ H; obtain ⟨a4, bk, -, H⟩ | ⟨a4, bk, da, H⟩ := H; have H' := a_ H; clear H; obtain ⟨bH, bU⟩ := t2_; rotate_left; have H' := a_ H; clear H; obtain ⟨bH, cR⟩ := t2_; rotate_left
                    (first | rw [aw] | (simp only [jm, jr]; rw [aw]) | skip); have H' := a_ H; clear H; have bU := t_; rotate_left
                    all_goals (
                     try(clear bH; have ab : 0 ≤ (be : Int) := of_decide_eq_true y1_; have aa : be < (a0.size : Int) := of_decide_eq_true y1_; have ac := lL a0 be; replace ab := eq_true ab; replace aa := eq_true aa)
                     go_wp2
                     try(
                       clear bU; go_meet
                       case rel => exact ⟨_, (be), y3_, H', ⟨by have := HJ1.out; have := HJ15.out; have := HJ17.out; have := HK9175678.out; have := HJ29.out; have := aQ.out; first | omega | exact Nat.le_refl _⟩, ⟨xM⟩, ⟨y0_⟩⟩)
                     try(
                       clear cR; go_roundg k6
                       case measure => have := HJ1.out; have := HJ15.out; have := HJ17.out; have := HK9175678.out; have := HJ29.out; have := aQ.out; omega
                       case rel => exact ⟨(wrap64 (be + 1)), y3_, H', ⟨by have := HJ1.out; have := HJ15.out; have := HJ17.out; have := HK9175678.out; have := HJ29.out; have := aQ.out; omega⟩, ⟨xM⟩, ⟨y0_⟩⟩))
                 case rest =>
                  clear aP; (try clear bS); (try clear bj); (try clear bC); (try clear aC); (try clear bR); (try clear ay); (try clear ab); (try clear aa); (try clear ac); (try clear bx); (try clear ak); (try clear aH); (try clear cl); (try clear aG); (try clear aX); (try clear cQ); (try clear aA); (try clear ab); (try clear aa); obtain ⟨kq, af, rfl, HA, HJ38, HO_8, HB⟩ := hcut; cases kq with
                  | zero => exact absurd HA.out (by simp [fB.j8])
                  | succ cy =>
                   have H := HA.out; clear HA; simp only [fB.j8] at H; have aT := a_ H; clear H; go_upto_region 19 with (fail)
                   go_cut [108] (fun bI wc => ∃ (kq : Nat) (aV : Bool), bI = .bool aV ∧ fD (fB.j9 kq a0 al am af ao aj aV = some (r1, r2, r3)) ∧ fD (kq ≤ cy) ∧ fD (Kd.R Kd.string 9 wc w.heap.size (fun _ => True) u8 ao) ∧ fD (Below w.heap.size w wc))
                   case first =>
                    have H := aT.out; clear aT; replace H := ie_ H; obtain ⟨aw, bF, -, H⟩ | ⟨aw, bF, b3, H⟩ := H; (first | rw [aw] | (simp only [jm, jr]; rw [aw]) | skip); have H' := a_ H; clear H; have bH := t_; rotate_left; (first | rw [aw] | (simp only [jm, jr]; rw [aw]) | skip); replace H := tC H; obtain ⟨aU, -, H⟩ | ⟨aU, -, H⟩ := H; have H' := a_ H; clear H; have bH := t_; rotate_left; obtain ⟨an, av⟩ : ∃ j_ : Int, (wrap64 (af + 1)) = j_ := ⟨_, rfl⟩; replace H : (if 0 ≤ (an) then (if (an) < (a0.size : Int) then (fB.j9 cy a0 al am af ao aj ((bt a0 (an)) != 34)) else (none)) else (none)) = some (r1, r2, r3) := by first | (rw [av] at H; exact H) | (simp only [av] at H ⊢; exact H)
                    (try rw [av] at aU); have cS : (IntKind.i64.wrap (af + 1)) = an := (jm _).trans av; replace H := kd_ H; obtain ⟨a3, -, H⟩ := H; replace H := kd_ H; obtain ⟨a4, -, H⟩ := H; have H' := a_ H; clear H; have bU := t_; rotate_left
                    all_goals (
                     try(
                       clear bH; go_wp2
                       go_meet
                       case rel => exact ⟨_, (true), y3_, H', ⟨by have := HJ1.out; have := HJ15.out; have := HJ17.out; have := HK9175678.out; have := HJ29.out; have := HJ38.out; first | omega | exact Nat.le_refl _⟩, ⟨xM⟩, ⟨y0_⟩⟩)
                     try(
                       clear bU; have ab : 0 ≤ ((an) : Int) := of_decide_eq_true y1_; have aa : (an) < (a0.size : Int) := of_decide_eq_true y1_; have ac := lL a0 (an); replace ab := eq_true ab; replace aa := eq_true aa; go_wp2
                       go_meet
                       case rel => exact ⟨_, (((bt a0 (an)) != 34)), (by first | rfl | (simp; done) | (simp only [← av] <;> (first | rfl | simp)) | (simp [*]; done)), H', ⟨by have := HJ1.out; have := HJ15.out; have := HJ17.out; have := HK9175678.out; have := HJ29.out; have := HJ38.out; first | omega | exact Nat.le_refl _⟩, ⟨xM⟩, ⟨y0_⟩⟩))
                   case rest =>
                    clear aT; (try clear bS); (try clear bj); (try clear bC); (try clear aC); (try clear bR); (try clear ay); (try clear ab); (try clear aa); (try clear ac); (try clear bx); (try clear ak); (try clear aH); (try clear cl); (try clear aG); (try clear aX); (try clear cQ); (try clear aA); (try clear ab); (try clear aa); obtain ⟨kq, aV, rfl, HA, HJ44, HO_8, HB⟩ := hcut; cases kq with
                    | zero => exact absurd HA.out (by simp [fB.j9])
                    | succ cz =>
                     have H := HA.out; clear HA; simp only [fB.j9] at H; by_cases b3 : aV = true
                     ·subst b3; rw [if_pos rfl] at H; replace H := j3_ H; obtain ⟨rfl, rfl, rfl⟩ := H; go_wp2
                      go_ret3
                      exact ⟨_, Lt, yY, y0_⟩
                     ·replace b3 := Bool.eq_false_iff.mpr b3; subst b3; rw [if_neg (show ¬ (false = true) by decide)] at H; have H' := a_ H; clear H; go_wp2
                      go_loopg [12] cz (fun kq bJ w' => ∃ (ad : Int), bJ = .int .i64 ad ∧ fD (fB.l4 kq a0 al am af ao aj (wrap64 (af + 2)) ad = some (r1, r2, r3)) ∧ fD (kq ≤ cz) ∧ fD (Kd.R Kd.string 9 w' w.heap.size (fun _ => True) u8 ao) ∧ fD (Below w.heap.size w w'))
                      case atStart => exact ⟨(wrap64 (af + 2)), y3_, H', ⟨Nat.le_refl _⟩, ⟨xM⟩, ⟨y0_⟩⟩
                      case round =>
                       clear H'; (try clear bS); (try clear bj); (try clear bC); (try clear aC); (try clear bR); (try clear ay); (try clear ab); (try clear aa); (try clear ac); (try clear bx); (try clear ak); (try clear aH); (try clear cl); (try clear aG); (try clear aX); (try clear cQ); (try clear aA); (try clear b3); (try clear ab); (try clear aa); obtain ⟨ad, rfl, HA, HK9663637, HO_8, HB⟩ := hrel; cases gk with
                       | zero => exact absurd HA.out (by simp [fB.l4])
                       | succ k8 =>
                        have H := HA.out; clear HA; simp only [fB.l4] at H; replace H := id_ H; obtain ⟨aU, -, H⟩ | ⟨aU, -, H⟩ := H; replace H := kd_ H; obtain ⟨a3, -, H⟩ := H; replace H := kd_ H; obtain ⟨a4, -, H⟩ := H; replace H := ie_ H; obtain ⟨bK, bL, -, H⟩ | ⟨bK, bL, db, H⟩ := H; replace H := tC H; obtain ⟨bM, -, H⟩ | ⟨bM, -, H⟩ := H; replace H := j3_ H; obtain ⟨rfl, rfl, rfl⟩ := H; obtain ⟨ca, cb, cA⟩ := t3_; rotate_left; replace H := kq_ H; obtain ⟨cc, cd, -, H⟩ := H; replace H := kq_ H; obtain ⟨ce, cf, -, H⟩ := H; replace H := kq_ H; obtain ⟨cg, ch, -, H⟩ := H; obtain ⟨ah, aD⟩ : ∃ j_ : Int, (wrap64 (af + 2)) = j_ := ⟨_, rfl⟩; replace H : (if 0 ≤ (ah) then (if (ah) ≤ ad then (if ad ≤ (a0.size : Int) then ((some (([a0.extract (aj : Int).toNat (af : Int).toNat, a0.extract ((ah) : Int).toNat (ad : Int).toNat] : List ByteArray) : List ByteArray)).bind fun ar => (if ao.length + ar.length < 8796093022208 then (fB.l1 k8 a0 al am (wrap64 (ad + 1)) (ao ++ ar)) else (none))) else (none)) else (none)) else (none)) = some (r1, r2, r3) := by first | (rw [aD] at H; exact H) | (simp only [aD] at H ⊢; exact H)
                        have cT : (IntKind.i64.wrap (af + 2)) = ah := (jm _).trans aD; replace H := kq_ H; obtain ⟨cU, cV, -, H⟩ := H; replace H := kq_ H; obtain ⟨cW, cX, -, H⟩ := H; replace H := kq_ H; obtain ⟨cY, cZ, -, H⟩ := H; obtain ⟨ar, hy_⟩ : ∃ y_ : List ByteArray, y_ = (([a0.extract (aj : Int).toNat (af : Int).toNat, a0.extract ((ah) : Int).toNat (ad : Int).toNat] : List ByteArray)) := ⟨_, rfl⟩; replace H : (if ao.length + ar.length < 8796093022208 then (fB.l1 k8 a0 al am (wrap64 (ad + 1)) (ao ++ ar)) else (none)) = some (r1, r2, r3) := z0_; have a5 := a_ hy_; clear hy_; replace H := kl_ H; obtain ⟨ci, H⟩ := H; obtain ⟨bf, hy_⟩ : ∃ y_ : List ByteArray, y_ = (ao ++ ar) := ⟨_, rfl⟩; replace H : (fB.l1 k8 a0 al am (wrap64 (ad + 1)) bf) = some (r1, r2, r3) := z0_; have bA := a_ hy_; clear hy_; have H' := a_ H; clear H; obtain ⟨ca, cB, c0, cC, c1, cD, cE, bW, bX⟩ := t9_; rotate_left
                        have H' := a_ H; clear H; obtain ⟨ca, cb, cF⟩ := t3_; rotate_left
                        replace H := tC H; obtain ⟨a3, -, H⟩ | ⟨a3, -, H⟩ := H; replace H := j3_ H; obtain ⟨rfl, rfl, rfl⟩ := H; obtain ⟨cb, cA⟩ := t2_; rotate_left; replace H := kq_ H; obtain ⟨a4, bk, -, H⟩ := H; replace H := kq_ H; obtain ⟨bK, bL, -, H⟩ := H; replace H := kq_ H; obtain ⟨bM, c2, -, H⟩ := H; obtain ⟨ai, aE⟩ : ∃ j_ : Int, (wrap64 (af + 2)) = j_ := ⟨_, rfl⟩; replace H : (if 0 ≤ (ai) then (if (ai) ≤ ad then (if ad ≤ (a0.size : Int) then ((some (([a0.extract (aj : Int).toNat (af : Int).toNat, a0.extract ((ai) : Int).toNat (ad : Int).toNat] : List ByteArray) : List ByteArray)).bind fun au => (if ao.length + au.length < 8796093022208 then (fB.l1 k8 a0 al am (wrap64 (ad + 1)) (ao ++ au)) else (none))) else (none)) else (none)) else (none)) = some (r1, r2, r3) := by first | (rw [aE] at H; exact H) | (simp only [aE] at H ⊢; exact H)
                        have c3 : (IntKind.i64.wrap (af + 2)) = ai := (jm _).trans aE; replace H := kq_ H; obtain ⟨cc, cd, -, H⟩ := H; replace H := kq_ H; obtain ⟨ce, cf, -, H⟩ := H; replace H := kq_ H; obtain ⟨cg, ch, -, H⟩ := H; obtain ⟨au, hy_⟩ : ∃ y_ : List ByteArray, y_ = (([a0.extract (aj : Int).toNat (af : Int).toNat, a0.extract ((ai) : Int).toNat (ad : Int).toNat] : List ByteArray)) := ⟨_, rfl⟩; replace H : (if ao.length + au.length < 8796093022208 then (fB.l1 k8 a0 al am (wrap64 (ad + 1)) (ao ++ au)) else (none)) = some (r1, r2, r3) := z0_; have a6 := a_ hy_; clear hy_; replace H := kl_ H; obtain ⟨cj, H⟩ := H; obtain ⟨bg, hy_⟩ : ∃ y_ : List ByteArray, y_ = (ao ++ au) := ⟨_, rfl⟩; replace H : (fB.l1 k8 a0 al am (wrap64 (ad + 1)) bg) = some (r1, r2, r3) := z0_; have bB := a_ hy_; clear hy_; have H' := a_ H; clear H; obtain ⟨cB, c4, cC, c5, cD, cG, bW, bY⟩ := t8_; rotate_left
                        all_goals (
                         try(clear ca; have ab : 0 ≤ (ad : Int) := of_decide_eq_true y1_; have aa : ad < (a0.size : Int) := of_decide_eq_true y1_; have ac := lL a0 ad; replace ab := eq_true ab; replace aa := eq_true aa)
                         try(clear cb; go_wp2)
                         try(
                           clear cA; go_ret3
                           exact ⟨_, Lt, yY, y0_⟩)
                         try(
                           clear cB; try go_wp2
                           have n_ := s2_ (Kd.iE HO_8.out) (gG HB.out); clear HO_8 HB; obtain ⟨HO_8, HB⟩ := n_; refine pF (n := 12) (S := fun w' => True) (ds := []) #[F_,F_,F_,F_,F_,F_,F_,F_,F_,F_,F_,F_] iY rfl rfl trivial (fun hHeld => ?_); refine mZ fB.MO fB.KJ (fun HT_ HW_ => ?_); generalize wr.drew = cH at HO_8 HB hHeld ⊢; refine iT (i := 0) (N := some 126) #[T_,F_,F_,F_,F_,F_,F_,F_,F_,F_,F_,F_] rfl rfl z1_ (fun _ _ _ h => h) (Or.inl ⟨rfl, z2_⟩) z3_ ?_; refine iT (i := 1) (N := some 127) #[T_,T_,F_,F_,F_,F_,F_,F_,F_,F_,F_,F_] rfl rfl z1_ (fun _ _ _ h => h) (Or.inl ⟨rfl, z2_⟩) z3_ ?_; refine iT (i := 2) (N := some 128) #[T_,T_,T_,F_,F_,F_,F_,F_,F_,F_,F_,F_] rfl rfl z1_ (fun _ _ _ h => h) (Or.inl ⟨rfl, z2_⟩) z3_ ?_; refine iT (i := 3) (N := some 129) #[T_,T_,T_,T_,F_,F_,F_,F_,F_,F_,F_,F_] rfl rfl z1_ (fun _ _ _ h => h) (Or.inl ⟨rfl, z2_⟩) z3_ ?_; refine iT (i := 4) (N := some 130) #[T_,T_,T_,T_,T_,F_,F_,F_,F_,F_,F_,F_] rfl rfl z1_ (fun _ _ _ h => h) (Or.inl ⟨rfl, z2_⟩) z3_ ?_; refine iT (i := 5) (N := some 131) #[T_,T_,T_,T_,T_,T_,F_,F_,F_,F_,F_,F_] rfl rfl z1_ (fun _ _ _ h => h) (Or.inl ⟨rfl, z2_⟩) z3_ ?_; refine iT (i := 6) (N := some 132) #[T_,T_,T_,T_,T_,T_,T_,F_,F_,F_,F_,F_] rfl rfl z1_ (fun _ _ _ h => h) (Or.inl ⟨rfl, z2_⟩) z3_ ?_; refine iT (i := 7) (N := some 133) #[T_,T_,T_,T_,T_,T_,T_,T_,F_,F_,F_,F_] rfl rfl z1_ (fun _ _ _ h => h) (Or.inl ⟨rfl, z2_⟩) z3_ ?_; refine iT (i := 8) (N := some 134) #[T_,T_,T_,T_,T_,T_,T_,T_,T_,F_,F_,F_] rfl rfl z1_ (fun _ _ _ h => h) (Or.inl ⟨rfl, z2_⟩) z3_ ?_; refine nY (i := 9) (N := some 135) #[T_,T_,T_,T_,T_,T_,T_,T_,T_,T_,F_,F_] rfl rfl (kF HT_.out iY) iO (fun K hK => ?_))
                         try(clear c0; refine Kd.kH Kd.string _ 9 ?hg (N := 135) ?hd (xs := ([a0.extract (aj : Int).toNat (af : Int).toNat, a0.extract ((ah) : Int).toNat (ad : Int).toNat] : List ByteArray)) (inner := [.string (a0.extract (aj : Int).toNat (af : Int).toNat), .string (a0.extract ((ah) : Int).toNat (ad : Int).toNat)]) (ok := fun _ => True) (okp := fun _ => True) ?hr ?hp (fun _ hk => hk) trivial (Below.refl _ _) (Nat.le_refl _) lI ?_; (case hd => rfl); (case hg => rfl); (case hr => first | (go_simp; done) | (go_simp; rfl)); (case hp => exact (iV.one (show Kd.M Kd.string _ _ _ (a0.extract (aj : Int).toNat (af : Int).toNat) [.string (a0.extract (aj : Int).toNat (af : Int).toNat)] from rfl) (iV.one (show Kd.M Kd.string _ _ _ (a0.extract ((ah) : Int).toNat (ad : Int).toNat) [.string (a0.extract ((ah) : Int).toNat (ad : Int).toNat)] from rfl) (iV.none _ _)))); intro bN bO ag hb hg_ hnew_; clear hg_ hnew_; (first | rw [← a5.out] at ag | (simp only [Int.reduceToNat] at ag; rw [← a5.out] at ag)))
                         try(clear c4; refine Kd.kH Kd.string _ 9 ?hg (N := 135) ?hd (xs := ([a0.extract (aj : Int).toNat (af : Int).toNat, a0.extract ((ai) : Int).toNat (ad : Int).toNat] : List ByteArray)) (inner := [.string (a0.extract (aj : Int).toNat (af : Int).toNat), .string (a0.extract ((ai) : Int).toNat (ad : Int).toNat)]) (ok := fun _ => True) (okp := fun _ => True) ?hr ?hp (fun _ hk => hk) trivial (Below.refl _ _) (Nat.le_refl _) lI ?_; (case hd => rfl); (case hg => rfl); (case hr => first | (go_simp; done) | (go_simp; rfl)); (case hp => exact (iV.one (show Kd.M Kd.string _ _ _ (a0.extract (aj : Int).toNat (af : Int).toNat) [.string (a0.extract (aj : Int).toNat (af : Int).toNat)] from rfl) (iV.one (show Kd.M Kd.string _ _ _ (a0.extract ((ai) : Int).toNat (ad : Int).toNat) [.string (a0.extract ((ai) : Int).toNat (ad : Int).toNat)] from rfl) (iV.none _ _)))); intro bN bO ag hb hg_ hnew_; clear hg_ hnew_; (first | rw [← a6.out] at ag | (simp only [Int.reduceToNat] at ag; rw [← a6.out] at ag)))
                         try(clear cC; have n_ := s3_ (Kd.kz xM (Kd.lD ag) hb) (Kd.jQ (Kd.lM ag (Kd.mQ xM)) (fV y0_)) (fZ y0_ hb); clear HO_8 HB; obtain ⟨HO_8, HO9369609, HB⟩ := n_; clear hb ag; obtain ⟨a7, a8, a9⟩ := Kd.jc HO9369609.out; (first | subst a9 | (injection a9 with f1_ f2_ f3_; have f4_ := f1_.symm; have f5_ := f3_.symm; clear f1_ f2_ f3_; subst f4_; subst f5_)); refine hK.out _ _ trivial (fun hHeld => ?_); clear hK K; refine jl Ou ?_; refine nY (i := 10) (N := some 136) #[T_,T_,T_,T_,T_,T_,T_,T_,T_,T_,T_,F_] rfl rfl (kF HT_.out iY) iO (fun K hK => ?_))
                         try(clear c1; refine Kd.kY Kd.string (w0 := w) w.heap.size (by rfl) (.tmp 126) (.tmp 135) 75 9 (.string ⟨#[]⟩) 16 rfl Tryz.underlying75 info9 rfl iO jv u8 ao ar _ _ _ (fun k_ => some k_ ≠ (.slice a7 ar.length a8 : Value).ownBlock) (fun _ => False) rfl rfl ?aO ?aR (fun _ _ h => h) (fun _ h => h.elim) ?aF ?aB ?aS ?aL ?_)
                         try(clear c5; refine Kd.kY Kd.string (w0 := w) w.heap.size (by rfl) (.tmp 126) (.tmp 135) 75 9 (.string ⟨#[]⟩) 16 rfl Tryz.underlying75 info9 rfl iO jv u8 ao au _ _ _ (fun k_ => some k_ ≠ (.slice a7 au.length a8 : Value).ownBlock) (fun _ => False) rfl rfl ?aO ?aR (fun _ _ h => h) (fun _ h => h.elim) ?aF ?aB ?aS ?aL ?_)
                         try(clear cD; (case aR => repeat (first | exact (Kd.iL HO9369609.out).2.2 | (with_reducible refine Kd.jh ?_ _) | (with_reducible refine Kd.jk ?_ _) | (with_reducible refine Kd.jK ?_))); (case aB => exact y0_); (case aF => exact (fun k_ hk => Kd.fresh' (Kd.mQ sU) k_ hk)); (case aO => exact (by (with_reducible repeat (first | apply Kd.iq | apply Kd.gY | apply Kd.iE)); exact Kd.iI HO_8.out (fun _ hk => hk.2))); (case aS => exact (fV y0_)))
                         try(clear cE; (case aL => have := ci.out; omega); intro bP bQ ho hb hg hat; rw [← bA.out] at ho)
                         try(clear cG; (case aL => have := cj.out; omega); intro bP bQ ho hb hg hat; rw [← bB.out] at ho)
                         try(
                           clear bW; have n_ := s3_ (Kd.mV (ok := (fun _ => True)) sU hg hat) hb ho; clear HO9369609 HB HO_8; obtain ⟨HO9369609, HB, HO9781806⟩ := n_; clear ho hb hg hat; refine hK.out _ _ trivial (fun hHeld => ?_); clear hK K; refine jl NW ?_; refine iT (i := 11) (N := some 8) #[T_,T_,T_,T_,T_,T_,T_,T_,T_,T_,T_,T_] rfl rfl z1_ (fun _ _ _ h => h) (Or.inl ⟨rfl, z2_⟩) z3_ ?_; refine rE (oO HT_.out iY) ?_; try go_wp2
                           go_roundg k8
                           case measure => have := HJ1.out; have := HJ15.out; have := HJ17.out; have := HK9175678.out; have := HJ29.out; have := HJ38.out; have := HJ44.out; have := HK9663637.out; omega)
                         first
                         | fail_if_success clear bX
                         |(clear bX
                           case rel => exact ⟨(wrap64 (ad + 1)), (bf), y3_, H', ⟨Ia⟩, ⟨by (with_reducible repeat (first | apply Kd.iq | apply Kd.gY | apply Kd.iE)); exact Kd.iI HO9781806.out (fun _ hk => trivial)⟩, ⟨y0_⟩⟩)
                         try(
                           clear cF; go_roundg k8
                           case measure => have := HJ1.out; have := HJ15.out; have := HJ17.out; have := HK9175678.out; have := HJ29.out; have := HJ38.out; have := HJ44.out; have := HK9663637.out; omega
                           case rel => exact ⟨(wrap64 (ad + 1)), y3_, H', ⟨Ia⟩, ⟨xM⟩, ⟨y0_⟩⟩)
                         first
                         | fail_if_success clear bY
                         |(clear bY
                           case rel => exact ⟨(wrap64 (ad + 1)), (bg), y3_, H', ⟨Ia⟩, ⟨by (with_reducible repeat (first | apply Kd.iq | apply Kd.gY | apply Kd.iE)); exact Kd.iI HO9781806.out (fun _ hk => trivial)⟩, ⟨y0_⟩⟩))
          ·rw [if_neg bx] at H; exact absurd H lI))

end Go.Proofs.YtbibioffldkanaaGreatDoor.K
