-- Written by a program of this session's own (xp.py) for this seat.
import Derived.Test.YtbibioffldkanaaGreatDoorK3
namespace Go.Proofs.YtbibioffldkanaaGreatDoor.K
open Go.RowKit Go.Proofs.YtbibioffldkanaaGreatDoorW.PrintWords Go.Proofs.YtbibioffldkanaaGreatDoorW.PrintLast Go.Proofs.YtbibioffldkanaaGreatDoorW.PrintMore
attribute [local go_sem] Instr.field asAgg
attribute [local go_sem] lS lQ mY mX lm lq lT lU   -- for this text's walks alone
set_option maxHeartbeats 8000000
set_option maxRecDepth 100000
set_option linter.unusedVariables false
set_option linter.unusedSimpArgs false

/-! ### lF: function 31 -/
def lF.f (aa : List Int) (ak : Int) (a1 : Int) : Option (Bool × Int) := (iC.f aa ak a1).bind fun ar => (some ((ar.1 == 0), ar.2))
theorem lF.calls (g : Nat) (aa : List Int) (ak : Int) (a1 : Int) (r1 : Bool) (r2 : Int) (w0 w : World) (hI : fK w0 w g aa ak) (hB : Below w0.heap.size w0 w) (h : lF.f aa ak a1 = some (r1, r2)) :
    Calls Tryz.prog 31 #[.pointer (some ⟨g, 0, none⟩), .int .i64 a1] w fun e w' => e = .returned (.bool r1) ∧ fK w0 w' g aa r2 ∧ Below w0.heap.size w0 w' ∧ gI w w' g none := by
 have HI0 := a_ hI; have HK := a_ (gI.refl w g none); have HL := a_ hB.size; clear hI; have HW0 := a_ hB.size; have HB := a_ hB; clear hB; have H : ((iC.f aa ak a1).bind fun ar => (some ((ar.1 == 0), ar.2))) = some (r1, r2) := h; clear h; replace H := bd_ H; obtain ⟨⟨be, bf⟩, A3, H⟩ := H; replace H : (some ((be == 0), bf)) = some (r1, r2) := H; replace H := j2_ H; obtain ⟨rfl, rfl⟩ := H; go_enter Tryz.func31, Tryz.ntmps31
 go_wp2_with (first | ((with_reducible refine gm (f := 29) rfl ?_); refine gc_ 29 7 Tryz.func29 #[.pointer (some ⟨g, 0, none⟩), .int .i64 a1] ?_; (with_reducible refine (iC.calls g aa ak a1 be bf w0 _ ?side1 ?side2 A3.out).mono ?_); (case side1 => repeat (first | (with_reducible first | exact HI0.out | apply fK.alloc | apply fK.drewN | apply fK.drew | apply fK.kZ) | exact HI0.out)); (case side2 => repeat (first | (with_reducible first | exact HB.out | apply gB | apply fU | apply gG | refine gX ?_ (fK.ge HI0.out)) | exact HB.out)); rintro e w4 ⟨rfl, hi, hb, hk⟩; refine ⟨_, rfl, ?_⟩; have n_ := s3_ (gI.trans y2_ hk (.inl rfl)) hb hi; clear HK HB HI0; obtain ⟨HK, HB, HI0⟩ := n_; (try clear hb); (try clear hb2); (try clear hk); (try clear hi)))
 go_ret
 exact ⟨y6_, y8_, y7_, y2_⟩

/-! ### ja: function 46 -/
def ja.l0 : Nat → List (S33) → Int → Int → Option (Int)
  | 0, _, _, _ => none
  | k + 1, x0, x1, x5 => if x1 ≥ 0 then (if x5 < 50 then (if 0 ≤ x1 then (if x1 < (x0.length : Int) then (ja.l0 k x0 ((fJ x0 x1).f1) (wrap64 (x5 + 1))) else (none)) else (none)) else (some x5)) else (some x5)
def ja.f (k : Nat) (l0 : List (S33)) (a1 : Int) : Option (Int) := ja.l0 k l0 a1 0
theorem ja.iQ : ∀ k, (∀ y0 y1 y2, LeO (ja.l0 k y0 y1 y2) (ja.l0 (k + 1) y0 y1 y2))
  | 0 => fun _ _ _ r h => by simp [ja.l0] at h
  | k + 1 => by
    have aY := ja.iQ k
    · intro y0 y1 y2
      unfold ja.l0
      repeat' (with_reducible first | exact aY _ _ _ | exact LeO.refl _ | exact LeO.none _ | refine LeO.ite ?_ ?_ | refine LeO.bind ?_ (fun _ => ?_))
theorem ja.mono : ∀ a0 a1 k, LeO (ja.f k a0 a1) (ja.f (k + 1) a0 a1) := by
  intro a0 a1 k
  have aY := ja.iQ k
  unfold ja.f
  repeat' (with_reducible first | exact aY _ _ _ | exact LeO.refl _ | exact LeO.none _ | refine LeO.ite ?_ ?_ | refine LeO.bind ?_ (fun _ => ?_))
theorem ja.calls (k : Nat) (A0 : Option Addr) (c0 : Nat) (l0 : List (S33)) (a1 : Int) (r : Int) (w : World) (bT : Kd.C k33 w A0 l0.length l0) (hc0 : l0.length ≤ c0) (h : ja.f k l0 a1 = some r) :
    Calls Tryz.prog 46 #[.slice A0 l0.length c0, .int .i64 a1] w fun e w' => e = .returned (.int .i64 r) ∧ jP w w' := by
 have b1 := a_ bT; have cb := a_ hc0; clear bT hc0; have H : (ja.l0 k l0 a1 0) = some r := h; clear h; have H' := a_ H; clear H; go_enter Tryz.func46, Tryz.ntmps46
 go_wp2
 go_loopg [1, 5] k (fun kq v1 v5 w' => ∃ (av : Int) (aZ : Int), v1 = .int .i64 av ∧ v5 = .int .i64 aZ ∧ fD (ja.l0 kq l0 av aZ = some r) ∧ fD (kq ≤ k) ∧ jP w w')
 case atStart => exact ⟨(a1), (0), y3_, y3_, H', ⟨Nat.le_refl _⟩, y5_⟩
 case round =>
  clear H'; obtain ⟨av, aZ, rfl, rfl, HA, HK1, ⟨m1, rfl⟩⟩ := hrel; cases gk with
  | zero => exact absurd HA.out (by simp [ja.l0])
  | succ k1 =>
   have H := HA.out; clear HA; simp only [ja.l0] at H; replace H := tC H; obtain ⟨bI, -, H⟩ | ⟨bI, -, H⟩ := H
   ·replace H := id_ H; obtain ⟨bJ, -, H⟩ | ⟨bJ, -, H⟩ := H
    ·replace H := kd_ H; obtain ⟨b2, -, H⟩ := H
     ·replace H := kd_ H; obtain ⟨b3, -, H⟩ := H
      ·have H' := a_ H; clear H; have a7 : 0 ≤ (av : Int) := of_decide_eq_true y1_; have a8 : av < (l0.length : Int) := of_decide_eq_true y1_; obtain ⟨bU, bK, bL, bM, bv, bw, bx, az, aA⟩ := nC b1.out av a7 a8; cases bM; have bz := a_ aA; have bA := a_ az; clear aA az; replace a7 := eq_true a7; replace a8 := eq_true a8; go_wp2
       go_roundg k1
       case measure => have := HK1.out; omega
       case rel => exact ⟨((fJ l0 av).f1), (wrap64 (aZ + 1)), y3_, y3_, H', ⟨pq⟩, y5_⟩
    ·obtain rfl := Option.some.inj H; go_wp2
     go_ret
     exact ⟨y3_, y5_⟩
   ·obtain rfl := Option.some.inj H; go_wp2
    go_ret
    exact ⟨y3_, y5_⟩

/-! ### gJ: function 39 -/
mutual
def gJ.l0 : Nat → List (S33) → Int → List Int → Int → Option ((List (S33)) × Int)
  | 0, _, _, _, _ => none
  | k + 1, x3, x4, ag, al => if x4 > 0 then (gJ.l1 k x3 x4 (wrap64 ((x3.length : Int) - 1)) ag al) else (some (x3, al))
def gJ.j2 : Nat → List (S33) → Int → Int → List Int → Int → Option ((List (S33)) × Int)
  | 0, _, _, _, _, _ => none
  | k + 1, x3, x4, x5, ag, al => (ja.f k x3 x5).bind fun bN => (if bN < 8 then ((gu.f k ag al x5).bind fun aB => (if x3.length < 2932031007402 then (gJ.l0 k (x3 ++ [(⟨aB.1, aB.2.1, aB.2.2.1⟩ : S33)]) (wrap64 (x4 - 1)) ag aB.2.2.2) else (none))) else (gJ.l0 k x3 (wrap64 (x4 - 1)) ag al))
def gJ.l1 : Nat → List (S33) → Int → Int → List Int → Int → Option ((List (S33)) × Int)
  | 0, _, _, _, _, _ => none
  | k + 1, x3, x4, x5, ag, al => if x5 > 0 then ((lF.f ag al 2).bind fun aU => (if aU.1 = true then (if 0 ≤ x5 then (if x5 < (x3.length : Int) then (gJ.l1 k x3 x4 ((fJ x3 x5).f1) ag aU.2) else (none)) else (none)) else (gJ.j2 k x3 x4 x5 ag aU.2))) else (gJ.j2 k x3 x4 x5 ag al)
end
def gJ.f (k : Nat) (aa : List Int) (ak : Int) : Option ((List (S33)) × Int) := (gu.f k aa ak (-1)).bind fun ai => ((iC.f aa ai.2.2.2 8).bind fun ad => (gJ.l0 k (([(⟨ai.1, ai.2.1, ai.2.2.1⟩ : S33)] : List (S33))) ad.1 aa ad.2))
theorem gJ.iQ : ∀ k, (∀ y0 y1 y2 y3, LeO (gJ.l0 k y0 y1 y2 y3) (gJ.l0 (k + 1) y0 y1 y2 y3)) ∧ (∀ y0 y1 y2 y3 y4, LeO (gJ.j2 k y0 y1 y2 y3 y4) (gJ.j2 (k + 1) y0 y1 y2 y3 y4)) ∧ (∀ y0 y1 y2 y3 y4, LeO (gJ.l1 k y0 y1 y2 y3 y4) (gJ.l1 (k + 1) y0 y1 y2 y3 y4))
  | 0 => ⟨fun _ _ _ _ r h => by simp [gJ.l0] at h, fun _ _ _ _ _ r h => by simp [gJ.j2] at h, fun _ _ _ _ _ r h => by simp [gJ.l1] at h⟩
  | k + 1 => by
    obtain ⟨aY, bg, bh⟩ := gJ.iQ k
    refine ⟨?_, ?_, ?_⟩
    · intro y0 y1 y2 y3
      unfold gJ.l0
      repeat' (with_reducible first | exact aY _ _ _ _ | exact bg _ _ _ _ _ | exact bh _ _ _ _ _ | exact ja.mono _ _ _ | exact gu.mono _ _ _ _ | exact LeO.refl _ | exact LeO.none _ | refine LeO.ite ?_ ?_ | refine LeO.bind ?_ (fun _ => ?_))
    · intro y0 y1 y2 y3 y4
      unfold gJ.j2
      repeat' (with_reducible first | exact aY _ _ _ _ | exact bg _ _ _ _ _ | exact bh _ _ _ _ _ | exact ja.mono _ _ _ | exact gu.mono _ _ _ _ | exact LeO.refl _ | exact LeO.none _ | refine LeO.ite ?_ ?_ | refine LeO.bind ?_ (fun _ => ?_))
    · intro y0 y1 y2 y3 y4
      unfold gJ.l1
      repeat' (with_reducible first | exact aY _ _ _ _ | exact bg _ _ _ _ _ | exact bh _ _ _ _ _ | exact ja.mono _ _ _ | exact gu.mono _ _ _ _ | exact LeO.refl _ | exact LeO.none _ | refine LeO.ite ?_ ?_ | refine LeO.bind ?_ (fun _ => ?_))
theorem gJ.mono : ∀ a0 a1 k, LeO (gJ.f k a0 a1) (gJ.f (k + 1) a0 a1) := by
  intro a0 a1 k
  obtain ⟨aY, bg, bh⟩ := gJ.iQ k
  unfold gJ.f
  repeat' (with_reducible first | exact aY _ _ _ _ | exact bg _ _ _ _ _ | exact bh _ _ _ _ _ | exact ja.mono _ _ _ | exact gu.mono _ _ _ _ | exact LeO.refl _ | exact LeO.none _ | refine LeO.ite ?_ ?_ | refine LeO.bind ?_ (fun _ => ?_))
theorem gJ.calls (k : Nat) (g : Nat) (aa : List Int) (ak : Int) (r1 : List (S33)) (r2 : Int) (w0 w : World) (hI : fK w0 w g aa ak) (hB : Below w0.heap.size w0 w) (h : gJ.f k aa ak = some (r1, r2)) :
    Calls Tryz.prog 39 #[.pointer (some ⟨g, 0, none⟩)] w fun e w' => ∃ v0_ : Value, e = .returned (v0_) ∧ Kd.S k33 33 w' w.heap.size (fun _ => True) v0_ r1 ∧ fK w0 w' g aa r2 ∧ Below w0.heap.size w0 w' ∧ gI w w' g none := by
 have HI0 := a_ hI; have HK := a_ (gI.refl w g none); have HL := a_ hB.size; clear hI; have HW0 := a_ hB.size; have HB := a_ hB; clear hB; have H : ((gu.f k aa ak (-1)).bind fun ai => ((iC.f aa ai.2.2.2 8).bind fun ad => (gJ.l0 k (([(⟨ai.1, ai.2.1, ai.2.2.1⟩ : S33)] : List (S33))) ad.1 aa ad.2))) = some (r1, r2) := h; clear h; replace H := bd_ H; obtain ⟨⟨aH, aI, aw, aV⟩, A2, H⟩ := H; replace H : ((iC.f aa aV 8).bind fun ad => (gJ.l0 k (([(⟨aH, aI, aw⟩ : S33)] : List (S33))) ad.1 aa ad.2)) = some (r1, r2) := H; obtain ⟨a9, hy_⟩ : ∃ y_ : List (S33), y_ = (([(⟨aH, aI, aw⟩ : S33)] : List (S33))) := ⟨_, rfl⟩; replace H : ((iC.f aa aV 8).bind fun ad => (gJ.l0 k a9 ad.1 aa ad.2)) = some (r1, r2) := z0_; have a6 := a_ hy_; clear hy_; replace H := bd_ H; obtain ⟨⟨ba, bb⟩, A3, H⟩ := H; replace H : (gJ.l0 k a9 ba aa bb) = some (r1, r2) := H; have H' := a_ H; clear H; go_enter Tryz.func39, Tryz.ntmps39
 go_wp2_with (first | ((with_reducible refine gm (f := 27) rfl ?_); refine gc_ 27 7 Tryz.func27 #[.pointer (some ⟨g, 0, none⟩), .int .i64 (-1)] ?_; (with_reducible refine (gu.calls k g aa ak (-1) aH aI aw aV w0 _ ?side1 ?side2 A2.out).mono ?_); (case side1 => repeat (first | (with_reducible first | exact HI0.out | apply fK.alloc | apply fK.drewN | apply fK.drew | apply fK.kZ) | exact HI0.out)); (case side2 => repeat (first | (with_reducible first | exact HB.out | apply gB | apply fU | apply gG | refine gX ?_ (fK.ge HI0.out)) | exact HB.out)); rintro e w4 ⟨b4, rfl, bd, hi, hb, hk⟩; refine ⟨_, rfl, ?_⟩; have n_ := s4_ (Kd.jQ bd (kG (w := w) (g := g) (row := none) y2_)) (gI.trans y2_ hk (.inl rfl)) hb hi; clear HK HB HI0; obtain ⟨aC, HK, HB, HI0⟩ := n_; (try clear hb); (try clear hb2); (try clear hk); (try clear hi); (try clear bd); obtain ⟨bV, bW, b5⟩ := Kd.jc aC.out; subst b5) | ((with_reducible refine iW (N := 8) rfl ?_); refine Ll k33 w.heap.size 33 ?hg (N := 8) ?hd (x := (⟨aH, aI, aw⟩ : S33)) (inner := [.string aH, .int .i64 aI, .slice bV aw.length bW]) (ok := (fun _ => True)) (okp := (fun k_ => some k_ = (.slice bV aw.length bW : Value).ownBlock)) ?hr rfl ?hp (fun k_ hk_ => ((Kd.iI (ok' := (fun _ => True)) (aC.out) (fun k_ hk => trivial))).1 k_ hk_.symm) ((show ∀ k_, w4.heap.size ≤ k_ → (fun _ => True) k_ from fun k_ hk => trivial) _ (Nat.le_refl _)) ((kG (w := w) (g := g) (row := none) y2_)) ?_; (case hd => rfl); (case hg => rfl); (case hr => first | (go_simp; done) | (go_simp; rfl)); (case hp => exact (qh _ _ _ (⟨aH, aI, aw⟩ : S33) (Kd.iI (Kd.rW rfl (Kd.iI (ok' := (fun _ => True)) (aC.out) (fun k_ hk => trivial))) (fun _ h_ => h_)))); intro b6 w6 bi hb hg_ hnew_; clear hg_ hnew_; (first | rw [← a6.out] at bi | (simp only [Int.reduceToNat] at bi; rw [← a6.out] at bi)); have n_ := s4_ bi (fK.below y8_ hb) (gI.trans y2_ (gI.of_below hb g none) (.inl rfl)) (fZ y7_ hb); clear HI0 HK HB aC; obtain ⟨aD, HI0, HK, HB⟩ := n_; clear hb bi) | ((with_reducible refine gm (f := 29) rfl ?_); refine gc_ 29 10 Tryz.func29 #[.pointer (some ⟨g, 0, none⟩), .int .i64 8] ?_; (with_reducible refine (iC.calls g aa aV 8 ba bb w0 _ ?side1 ?side2 A3.out).mono ?_); (case side1 => repeat (first | (with_reducible first | exact HI0.out | apply fK.alloc | apply fK.drewN | apply fK.drew | apply fK.kZ) | exact HI0.out)); (case side2 => repeat (first | (with_reducible first | exact HB.out | apply gB | apply fU | apply gG | refine gX ?_ (fK.ge HI0.out)) | exact HB.out)); rintro e w8 ⟨rfl, hi, hb, hk⟩; refine ⟨_, rfl, ?_⟩; have n_ := s4_ (Kd.mJ (Kd.qp (fK.ql (show fK w0 _ g aa aV from by repeat (first | (with_reducible first | exact HI0.out | apply fK.alloc | apply fK.drewN | apply fK.drew | apply fK.kZ) | exact HI0.out)) (by (with_reducible repeat (first | apply Kd.nI | apply Kd.nH | apply Kd.nS)); exact aD.out) iO) hk (fun _ h => h.2)) (fun _ h => h.1)) (gI.trans y2_ hk (.inl rfl)) hb hi; clear aD HK HB HI0; obtain ⟨aD, HK, HB, HI0⟩ := n_; (try clear hb); (try clear hb2); (try clear hk); (try clear hi)))
 go_loopg [3, 4] k (fun kq v3 v4 w' => ∃ (ab : List (S33)) (an : Int) (am : Int), v4 = .int .i64 an ∧ fD (gJ.l0 kq ab an aa am = some (r1, r2)) ∧ fD (kq ≤ k) ∧ fD (Kd.S k33 33 w' w.heap.size (fun _ => True) v3 ab) ∧ fD (fK w0 w' g aa am) ∧ fD (gI w w' g none) ∧ fD (Below w0.heap.size w0 w'))
 case atStart => exact ⟨(a9), (ba), (bb), y3_, H', ⟨Nat.le_refl _⟩, ⟨by (with_reducible repeat (first | apply Kd.nI | apply Kd.nH | apply Kd.nS)); exact aD.out⟩, ⟨y8_⟩, ⟨y2_⟩, ⟨y7_⟩⟩
 case round =>
  clear H'; obtain ⟨ab, an, am, rfl, HA, HK1, HO_3, HI0, HK, HB⟩ := hrel; cases gk with
  | zero => exact absurd HA.out (by simp [gJ.l0])
  | succ k1 =>
   have H := HA.out; clear HA; simp only [gJ.l0] at H; replace H := qU H; obtain ⟨aW, -, H⟩ | ⟨aW, -, H⟩ := H
   ·have bc := a_ H; clear H; obtain ⟨aJ, aK, bO⟩ := Kd.qC HO_3.out; subst bO; go_upto_block 2 with (fail)
    go_cut [5] (fun v5 wc => ∃ (kq : Nat) (ax : Int) (ae : Int), v5 = .int .i64 ax ∧ fD (gJ.j2 kq ab an ax aa ae = some (r1, r2)) ∧ fD (kq ≤ k1) ∧ fD (Kd.S k33 33 wc w.heap.size (fun _ => True) (.slice aJ ab.length aK) ab) ∧ fD (fK w0 wc g aa ae) ∧ fD (gI w wc g none) ∧ fD (Below w0.heap.size w0 wc))
    case first =>
     have H := bc.out; clear bc; have H' := a_ H; clear H; go_wp2
     go_loopg [5] k1 (fun kq v5 w' => ∃ (ah : Int) (ac : Int), v5 = .int .i64 ah ∧ fD (gJ.l1 kq ab an ah aa ac = some (r1, r2)) ∧ fD (kq ≤ k1) ∧ fD (Kd.S k33 33 w' w.heap.size (fun _ => True) (.slice aJ ab.length aK) ab) ∧ fD (fK w0 w' g aa ac) ∧ fD (gI w w' g none) ∧ fD (Below w0.heap.size w0 w'))
     case atStart => exact ⟨(wrap64 ((ab.length : Int) - 1)), (am), y3_, H', ⟨Nat.le_refl _⟩, ⟨qK⟩, ⟨y8_⟩, ⟨y2_⟩, ⟨y7_⟩⟩
     case round =>
      clear H'; (try clear b7); (try clear aW); obtain ⟨ah, ac, rfl, HA, HK2, HO_3, HI0, HK, HB⟩ := hrel; cases gk with
      | zero => exact absurd HA.out (by simp [gJ.l1])
      | succ k2 =>
       have H := HA.out; clear HA; simp only [gJ.l1] at H; replace H := qU H; obtain ⟨au, -, H⟩ | ⟨au, -, H⟩ := H
       ·(first | rw [au] | (simp only [jm, jr]; rw [au]) | skip); replace H := bd_ H; obtain ⟨⟨bj, aM⟩, bX, H⟩ := H; replace H : (if bj = true then (if 0 ≤ ah then (if ah < (ab.length : Int) then (gJ.l1 k2 ab an ((fJ ab ah).f1) aa aM) else (none)) else (none)) else (gJ.j2 k2 ab an ah aa aM)) = some (r1, r2) := H; by_cases bB : bj = true
        ·subst bB; rw [if_pos rfl] at H; replace H := kd_ H; obtain ⟨bY, -, H⟩ := H
         ·replace H := kd_ H; obtain ⟨bZ, -, H⟩ := H
          ·have H' := a_ H; clear H; go_wp2_with (first | (go_at_call 31; (with_reducible refine (lF.calls g aa ac 2 true aM w0 _ ?side1 ?side2 bX.out).mono ?_); (case side1 => repeat (first | (with_reducible first | exact HI0.out | apply fK.alloc | apply fK.drewN | apply fK.drew | apply fK.kZ) | exact HI0.out)); (case side2 => repeat (first | (with_reducible first | exact HB.out | apply gB | apply fU | apply gG | refine gX ?_ (fK.ge HI0.out)) | exact HB.out)); rintro e cc ⟨rfl, hi, hb, hk⟩; have n_ := s4_ (Kd.mJ (Kd.qp (fK.ql (show fK w0 _ g aa ac from by repeat (first | (with_reducible first | exact HI0.out | apply fK.alloc | apply fK.drewN | apply fK.drew | apply fK.kZ) | exact HI0.out)) qK iO) hk (fun _ h => h.2)) (fun _ h => h.1)) (gI.trans y2_ hk (.inl rfl)) hb hi; clear HO_3 HK HB HI0; obtain ⟨HO_3, HK, HB, HI0⟩ := n_; (try clear hb); (try clear hb2); (try clear hk); (try clear hi); have a2 : 0 ≤ (ah : Int) := of_decide_eq_true y1_; have a3 : ah < (ab.length : Int) := of_decide_eq_true y1_; obtain ⟨b0, bP, bQ, bR, bC, bD, a4, aE, aG⟩ := nC (Kd.kD HO_3.out).2.2 ah a2 a3; cases bR; obtain ⟨ce161, hce161, hMe161, aX⟩ := Kd.Aj HO_3.out z33 ah a2 (by first | exact a3 | exact of_decide_eq_true y1_ | (have e_ := (Kd.kD HO_3.out).1; omega)); obtain ⟨bE, rfl, aq⟩ := nP hMe161; have aj := aX 2 _ rfl; rw [o6 _ _ 2 jv] at aj; replace aj := Option.some.inj (aj.symm.trans a4); rw [aj] at aq; have bF := a_ (show Kd.R k38 38 _ _ _ _ ((fJ ab ah).f2) from aq); clear aj aq; clear aX hce161; have bG := a_ aG; have bH := a_ aE; clear aG aE; replace a2 := eq_true a2; replace a3 := eq_true a3))
           go_roundg k2
           case measure => have := HK1.out; have := HK2.out; omega
           case rel => exact ⟨((fJ ab ah).f1), (aM), y3_, H', ⟨by have := HK1.out; have := HK2.out; omega⟩, ⟨qK⟩, ⟨y8_⟩, ⟨y2_⟩, ⟨y7_⟩⟩
        ·replace bB := Bool.eq_false_iff.mpr bB; subst bB; rw [if_neg (show ¬ (false = true) by decide)] at H; have H' := a_ H; clear H; go_wp2_with (first | (go_at_call 31; (with_reducible refine (lF.calls g aa ac 2 false aM w0 _ ?side1 ?side2 bX.out).mono ?_); (case side1 => repeat (first | (with_reducible first | exact HI0.out | apply fK.alloc | apply fK.drewN | apply fK.drew | apply fK.kZ) | exact HI0.out)); (case side2 => repeat (first | (with_reducible first | exact HB.out | apply gB | apply fU | apply gG | refine gX ?_ (fK.ge HI0.out)) | exact HB.out)); rintro e cd ⟨rfl, hi, hb, hk⟩; have n_ := s4_ (Kd.mJ (Kd.qp (fK.ql (show fK w0 _ g aa ac from by repeat (first | (with_reducible first | exact HI0.out | apply fK.alloc | apply fK.drewN | apply fK.drew | apply fK.kZ) | exact HI0.out)) qK iO) hk (fun _ h => h.2)) (fun _ h => h.1)) (gI.trans y2_ hk (.inl rfl)) hb hi; clear HO_3 HK HB HI0; obtain ⟨HO_3, HK, HB, HI0⟩ := n_; (try clear hb); (try clear hb2); (try clear hk); (try clear hi)))
         go_meet
         case rel => exact ⟨_, (ah), (aM), y3_, H', ⟨by have := HK1.out; have := HK2.out; first | omega | exact Nat.le_refl _⟩, ⟨qK⟩, ⟨y8_⟩, ⟨y2_⟩, ⟨y7_⟩⟩
       ·(first | rw [au] | (simp only [jm, jr]; rw [au]) | skip); have H' := a_ H; clear H; go_wp2
        go_meet
        case rel => exact ⟨_, (ah), (ac), y3_, H', ⟨by have := HK1.out; have := HK2.out; first | omega | exact Nat.le_refl _⟩, ⟨qK⟩, ⟨y8_⟩, ⟨y2_⟩, ⟨y7_⟩⟩
    case rest =>
     clear bc; (try clear b7); (try clear aW); obtain ⟨kq, ax, ae, rfl, HA, bS, HO_3, HI0, HK, HB⟩ := hcut; cases kq with
     | zero => exact absurd HA.out (by simp [gJ.j2])
     | succ bk =>
      have H := HA.out; clear HA; simp only [gJ.j2] at H; replace H := bd_ H; obtain ⟨b8, b9, H⟩ := H; replace H := id_ H; obtain ⟨bl, -, H⟩ | ⟨bl, -, H⟩ := H; replace H := bd_ H; obtain ⟨⟨aN, aQ, ay, a5⟩, ca, H⟩ := H; replace H : (if ab.length < 2932031007402 then (gJ.l0 bk (ab ++ [(⟨aN, aQ, ay⟩ : S33)]) (wrap64 (an - 1)) aa a5) else (none)) = some (r1, r2) := H; replace H := kl_ H; obtain ⟨bm, H⟩ := H; obtain ⟨bn, hy_⟩ : ∃ y_ : List (S33), y_ = (ab ++ [(⟨aN, aQ, ay⟩ : S33)]) := ⟨_, rfl⟩; replace H : (gJ.l0 bk bn (wrap64 (an - 1)) aa a5) = some (r1, r2) := z0_; have bo := a_ hy_; clear hy_; have H' := a_ H; clear H; have bp := t_; rotate_left
      have H' := a_ H; clear H; have bq := t_; rotate_left
      all_goals (
       go_wp2_with (first | ((with_reducible refine gm (f := 46) rfl ?_); refine gc_ 46 31 Tryz.func46 #[.slice aJ ab.length aK, .int .i64 ax] ?_; (with_reducible refine (ja.calls bk _ _ ab ax b8 _ ?side1 ?side2 b9.out).mono ?_); (case side1 => repeat (first | exact (Kd.kD HO_3.out).2.2 | (with_reducible refine Kd.jh ?_ _) | (with_reducible refine Kd.jk ?_ _) | (with_reducible refine Kd.jK ?_))); (case side2 => exact (Kd.kD HO_3.out).2.1); rintro e w' ⟨rfl, ⟨nd, rfl⟩⟩; refine ⟨_, rfl, ?_⟩) | ((with_reducible refine gm (f := 27) rfl ?_); refine gc_ 27 36 Tryz.func27 #[.pointer (some ⟨g, 0, none⟩), .int .i64 ax] ?_; (with_reducible refine (gu.calls bk g aa ae ax aN aQ ay a5 w0 _ ?side1 ?side2 ca.out).mono ?_); (case side1 => repeat (first | (with_reducible first | exact HI0.out | apply fK.alloc | apply fK.drewN | apply fK.drew | apply fK.kZ) | exact HI0.out)); (case side2 => repeat (first | (with_reducible first | exact HB.out | apply gB | apply fU | apply gG | refine gX ?_ (fK.ge HI0.out)) | exact HB.out)); rintro e br ⟨bs, rfl, bd, hi, hb, hk⟩; refine ⟨_, rfl, ?_⟩; have n_ := s5_ (Kd.mJ (Kd.Lp (Kd.KT (fK.ql (show fK w0 _ g aa ae from by repeat (first | (with_reducible first | exact HI0.out | apply fK.alloc | apply fK.drewN | apply fK.drew | apply fK.kZ) | exact HI0.out)) qK iO) hk) (Kd.lD bd)) (fun _ h_ => h_.1)) (Kd.jQ bd (kG (w := w) (g := g) (row := none) y2_)) (gI.trans y2_ hk (.inl rfl)) hb hi; clear HO_3 HK HB HI0; obtain ⟨HO_3, af, HK, HB, HI0⟩ := n_; (try clear hb); (try clear hb2); (try clear hk); (try clear hi); (try clear bd); obtain ⟨ao, ap, aR⟩ := Kd.jc af.out; subst aR) | ((with_reducible refine ni (b := .append) (xs := #[.tmp 33, .tmp 37]) rfl ?_); at_builtin; refine Kd.Hl k33 w.heap.size rfl (.tmp 33) (.tmp 37) 24 33 (.agg #[(.string ⟨#[]⟩), (.int .i64 0), (.slice none 0 0)]) 48 rfl Tryz.underlying24 info33 rfl iO jv (.slice aJ ab.length aK) ab (⟨aN, aQ, ay⟩ : S33) [.string aN, .int .i64 aQ, .slice ao ay.length ap] (fun _ => True) (fun k_ => some k_ = (.slice ao ay.length ap : Value).ownBlock) rfl rfl ?aP (fun k_ hk_ => ((Kd.iI (ok' := fun k_ => ((fun _ => True)) k_ ∧ some k_ ≠ (.slice aJ ab.length aK : Value).ownBlock) (Kd.wY (af.out) (Kd.vG HO_3.out) iO) (fun k_ hk => ⟨trivial, hk.2⟩))).1 k_ hk_.symm) ?aF ?aO (Below.refl _ _) ?aS ?aL ?_; (case aP => exact qh _ _ _ (⟨aN, aQ, ay⟩ : S33) (Kd.iI (Kd.rW rfl (Kd.iI (ok' := fun k_ => ((fun _ => True)) k_ ∧ some k_ ≠ (.slice aJ ab.length aK : Value).ownBlock) (Kd.wY (af.out) (Kd.vG HO_3.out) iO) (fun k_ hk => ⟨trivial, hk.2⟩))) (fun _ h_ => h_))); (case aF => exact (fun _ _ => trivial)); (case aO => exact (by (with_reducible repeat (first | apply Kd.nI | apply Kd.nH | apply Kd.nS)); exact Kd.mJ HO_3.out (fun k_ hk => ⟨trivial, fun e_ => hk.2 e_⟩))); (case aS => exact (kG (w := w) (g := g) (row := none) y2_)); (case aL => have := bm.out; omega); intro bt bu ho hb hg hat; rw [← bo.out] at ho; have n_ := s4_ (fK.uH HI0.out y8_ hg (fK.yD HI0.out HO_3.out iO)) (qV y7_ HL.out hb) (gI.trans y2_ (gI.nD hg g) (Kd.yE HO_3.out)) ho; clear HI0 HB HK HO_3 af; obtain ⟨HI0, HB, HK, aT⟩ := n_; clear ho hb hg hat))
       go_roundg bk
       case measure => have := HK1.out; have := bS.out; omega
       first
       | fail_if_success clear bp
       |(clear bp
         case rel => exact ⟨(bn), (wrap64 (an - 1)), (a5), y3_, H', ⟨by have := HK1.out; have := bS.out; omega⟩, ⟨by (with_reducible repeat (first | apply Kd.nI | apply Kd.nH | apply Kd.nS)); exact aT.out⟩, ⟨y8_⟩, ⟨y2_⟩, ⟨y7_⟩⟩)
       first
       | fail_if_success clear bq
       |(clear bq
         case rel => exact ⟨(ab), (wrap64 (an - 1)), (ae), y3_, H', ⟨by have := HK1.out; have := bS.out; omega⟩, ⟨qK⟩, ⟨y8_⟩, ⟨y2_⟩, ⟨y7_⟩⟩))
   ·replace H := j2_ H; obtain ⟨rfl, rfl⟩ := H; go_wp2
    go_ret
    exact ⟨_, y6_, qK, y8_, y7_, y2_⟩

end Go.Proofs.YtbibioffldkanaaGreatDoor.K
