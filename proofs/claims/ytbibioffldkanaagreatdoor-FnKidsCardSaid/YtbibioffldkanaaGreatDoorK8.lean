-- Written by a program of this session's own (xp.py) for this seat.
import Derived.Test.YtbibioffldkanaaGreatDoorK5
namespace Go.Proofs.YtbibioffldkanaaGreatDoor.K
open Go.RowKit Go.Proofs.YtbibioffldkanaaGreatDoorW.PrintWords Go.Proofs.YtbibioffldkanaaGreatDoorW.PrintLast Go.Proofs.YtbibioffldkanaaGreatDoorW.PrintMore
attribute [local go_sem] Instr.field asAgg
attribute [local go_sem] lS lQ mY mX lm lq lT lU   -- for this text's walks alone
set_option maxHeartbeats 8000000
set_option maxRecDepth 100000
set_option linter.unusedVariables false
set_option linter.unusedSimpArgs false

/-! ### lg: function 21 -/
def lg.f (aF : List Int) (ag : List Int) : Option (Int × List Int × List Int) := if 0 ≤ (wrap64 ((ag.length : Int) - 1)) then (if (wrap64 ((ag.length : Int) - 1)) < (ag.length : Int) then (some (rd ag (wrap64 ((ag.length : Int) - 1)), aF, ag)) else (none)) else (none)
theorem lg.calls (gp0 : Nat) (P0_0_ : Nat → Prop) (u9000_ : Value) (aF : List Int) (P0_1_ : Nat → Prop) (u9001_ : Value) (ag : List Int) (r1 : Int) (r2 : List Int) (r3 : List Int) (w0 w : World) (hB : Below w0.heap.size w0 w) (hbx : w.heap[gp0]? = some (.cells #[u9000_, u9001_] 50 (0, 0))) (hge : w0.heap.size ≤ gp0) (a5 : Kd.R (Kd.int .i64) 2 w w0.heap.size P0_0_ u9000_ aF) (hp0_0_0_1 : ∀ k_, P0_0_ k_ → ¬ P0_1_ k_) (a6 : Kd.R (Kd.int .i64) 2 w w0.heap.size P0_1_ u9001_ ag) (hp0_1_0_0 : ∀ k_, P0_1_ k_ → ¬ P0_0_ k_) (h : lg.f aF ag = some (r1, r2, r3)) :
    Calls Tryz.prog 21 #[.pointer (some ⟨gp0, 0, none⟩)] w fun e w' => ∃ v1_ v2_ : Value, e = .returned (.int .i64 r1) ∧ Kd.R (Kd.int .i64) 2 w' w0.heap.size (fun k_ => ((P0_0_ k_ ∨ P0_1_ k_) ∨ w.heap.size ≤ k_) ∧ some k_ ≠ (v2_ : Value).ownBlock) v1_ r2 ∧ Kd.R (Kd.int .i64) 2 w' w0.heap.size (fun k_ => ((P0_0_ k_ ∨ P0_1_ k_) ∨ w.heap.size ≤ k_) ∧ some k_ ≠ (v1_ : Value).ownBlock) v2_ r3 ∧ w'.heap[gp0]? = some (.cells #[v1_, v2_] 50 (0, 0)) ∧ Below w0.heap.size w0 w' ∧ Kept w w' (fun k_ => (P0_0_ k_ ∨ P0_1_ k_) ∨ k_ = gp0) := by
 have HO0_0 := a_ (show Kd.R (Kd.int .i64) 2 w w0.heap.size (fun k_ => ((P0_0_ k_ ∨ P0_1_ k_) ∨ w.heap.size ≤ k_) ∧ some k_ ≠ (u9001_ : Value).ownBlock) u9000_ aF from Kd.iI a5 (fun k_ hk => ⟨(.inl (.inl hk)), fun e_ => hp0_0_0_1 k_ hk (a6.1 k_ e_.symm)⟩)); have HO0_1 := a_ (show Kd.R (Kd.int .i64) 2 w w0.heap.size (fun k_ => ((P0_0_ k_ ∨ P0_1_ k_) ∨ w.heap.size ≤ k_) ∧ some k_ ≠ (u9000_ : Value).ownBlock) u9001_ ag from Kd.iI a6 (fun k_ hk => ⟨(.inl (.inr hk)), fun e_ => hp0_1_0_0 k_ hk (a5.1 k_ e_.symm)⟩)); have HK := a_ (Kept.refl w (fun k_ => (P0_0_ k_ ∨ P0_1_ k_) ∨ k_ = gp0)); have BK0 := a_ hbx; have GE0 := a_ hge; clear hbx hge; have HW0 := a_ hB.size; have HB := a_ hB; clear hB; have H : (if 0 ≤ (wrap64 ((ag.length : Int) - 1)) then (if (wrap64 ((ag.length : Int) - 1)) < (ag.length : Int) then (some (rd ag (wrap64 ((ag.length : Int) - 1)), aF, ag)) else (none)) else (none)) = some (r1, r2, r3) := h; clear h; obtain ⟨be, aW⟩ : ∃ j_ : Int, (wrap64 ((ag.length : Int) - 1)) = j_ := ⟨_, rfl⟩; replace H : (if 0 ≤ (be) then (if (be) < (ag.length : Int) then (some (rd ag (be), aF, ag)) else (none)) else (none)) = some (r1, r2, r3) := by first | (rw [aW] at H; exact H) | (simp only [aW] at H ⊢; exact H)
 have b0 : (IntKind.i64.wrap ((ag.length : Int) - 1)) = be := (jm _).trans aW; replace H := kd_ H; obtain ⟨b5, -, H⟩ := H
 ·replace H := kd_ H; obtain ⟨b6, -, H⟩ := H
  ·replace H := j3_ H; obtain ⟨rfl, rfl, rfl⟩ := H; obtain ⟨bN, bO, bP, bQ⟩ := pO BK0.out; obtain ⟨ci, cj, b7⟩ := Kd.jc HO0_1.out; subst b7; have bf : 0 ≤ ((be) : Int) := of_decide_eq_true y1_; have bg : (be) < (ag.length : Int) := of_decide_eq_true y1_; obtain ⟨b1, bR, bM⟩ := Kd.qR (Kd.iL HO0_1.out).2.2 (be) bf bg; cases bR; replace bf := eq_true bf; replace bg := eq_true bg; go_enter Tryz.func21, Tryz.ntmps21
   go_wp2
   repeat (go_quiet (fail); try go_wp2)
   go_ret
   exact ⟨_, _, by first | rfl | (simp [mr, mg] <;> rfl) | (simp only [← aW]; first | rfl | (simp [mr, mg] <;> rfl)) | (simp [*, mr, mg] <;> rfl), Gu, Gj, pG, y4_, o9⟩

/-! ### oC: function 59 -/
def oC.f (aI : ByteArray) (aX : ByteArray) (a1 : ByteArray) : Option (Bool) := some (aI.toList == (jG ByteArray.empty [a1] 0).toList)
theorem oC.calls (aI : ByteArray) (aX : ByteArray) (adp1 : Addr) (a1 : ByteArray) (r : Bool) (w : World) (a7 : Kd.C Kd.string w (some adp1) 1 [a1]) (h : oC.f aI aX a1 = some r) :
    Calls Tryz.prog 59 #[.agg #[.string aI, .string aX], .pointer (some adp1)] w fun e w' => e = .returned (.bool r) ∧ Below w.heap.size w w' := by
 have hu38 := Tryz.underlying38; have bv := a_ a7; clear a7; have HB := a_ (Below.refl w.heap.size w); have H : (some (aI.toList == (jG ByteArray.empty [a1] 0).toList)) = some r := h; clear h; obtain rfl := Option.some.inj H; go_enter Tryz.func59, Tryz.ntmps59
 go_wp2_with (first | ((with_reducible refine iW (N := 2) rfl ?_); refine jF zr_ (N := 2) zr_ (cs := #[.string aI, .string aX]) (t := 38) zs_ ?_; intro ao hg w3 hbox hb; have n_ := s4_ (fZ y0_ hb) hbox ((by rw [hg]; exact (fV y0_) : w.heap.size ≤ ao)) ((by rw [hg]; exact (fV y0_) : w.heap.size ≤ ao)); clear HB; obtain ⟨HB, av, bw, GE262⟩ := n_; clear hb hbox hg; obtain ⟨bS, bT, bU, bV⟩ := pO av.out; have bh : 0 ≤ (0 : Int) := jv; have bi : 0 < ([a1].length : Int) := lI; obtain ⟨bx, bW, an⟩ := Kd.lX bv.out 0 bh bi; obtain rfl : adp1 = bx := (by injection bW); have b2 : (0 < [a1].length) = True := eq_true jv; (try rw [show ((0 : Int)).toNat = 0 from rfl] at an); (try rw [Addr.add_zero'] at an); replace an := cT_ HB.out an; replace bh := eq_true bh; replace bi := eq_true bi))
 go_ret
 exact ⟨y6_, Ij⟩

/-! ### fM: function 136 -/
def fM.l0 : Nat → List (S38) → Int → Int → ByteArray → Option (Int)
  | 0, _, _, _, _ => none
  | k + 1, x0, x7, x8, bz => if x8 < x7 then (if 0 ≤ x8 then (if x8 < (x0.length : Int) then ((oC.f ((iU x0 x8).f0) ((iU x0 x8).f1) bz).bind fun aA => (if aA = true then (some x8) else (fM.l0 k x0 x7 (wrap64 (x8 + 1)) bz))) else (none)) else (none)) else (some (-1))
def fM.f (k : Nat) (l0 : List (S38)) (a1 : ByteArray) : Option (Int) := fM.l0 k l0 (l0.length : Int) 0 a1
theorem fM.iQ : ∀ k, (∀ y0 y1 y2 y3, LeO (fM.l0 k y0 y1 y2 y3) (fM.l0 (k + 1) y0 y1 y2 y3))
  | 0 => fun _ _ _ _ r h => by simp [fM.l0] at h
  | k + 1 => by
    have aM := fM.iQ k
    · intro y0 y1 y2 y3
      unfold fM.l0
      repeat' (with_reducible first | exact aM _ _ _ _ | exact LeO.refl _ | exact LeO.none _ | refine LeO.ite ?_ ?_ | refine LeO.bind ?_ (fun _ => ?_))
theorem fM.mono : ∀ a0 a1 k, LeO (fM.f k a0 a1) (fM.f (k + 1) a0 a1) := by
  intro a0 a1 k
  have aM := fM.iQ k
  unfold fM.f
  repeat' (with_reducible first | exact aM _ _ _ _ | exact LeO.refl _ | exact LeO.none _ | refine LeO.ite ?_ ?_ | refine LeO.bind ?_ (fun _ => ?_))
theorem fM.calls (k : Nat) (A0 : Option Addr) (c0 : Nat) (l0 : List (S38)) (adp1 : Addr) (a1 : ByteArray) (r : Int) (w : World) (aN : Kd.C k38 w A0 l0.length l0) (hc0 : l0.length ≤ c0) (a7 : Kd.C Kd.string w (some adp1) 1 [a1]) (h : fM.f k l0 a1 = some r) :
    Calls Tryz.prog 68 #[.slice A0 l0.length c0, .func (.func 59) #[] #[.pointer (some adp1)]] w fun e w' => e = .returned (.int .i64 r) ∧ Below w.heap.size w w' := by
 have hu38 := Tryz.underlying38; have a8 := a_ aN; have bo := a_ hc0; clear aN hc0; have bv := a_ a7; clear a7; have HB := a_ (Below.refl w.heap.size w); have H : (fM.l0 k l0 (l0.length : Int) 0 a1) = some r := h; clear h; have H' := a_ H; clear H; go_enter Tryz.func68, Tryz.ntmps68
 go_wp2
 go_loopg [8] k (fun kq v8 w' => ∃ (aa : Int), v8 = .int .i64 aa ∧ fD (fM.l0 kq l0 (l0.length : Int) aa a1 = some r) ∧ fD (kq ≤ k) ∧ fD (Below w.heap.size w w'))
 case atStart => exact ⟨(0), y3_, H', ⟨Nat.le_refl _⟩, ⟨y0_⟩⟩
 case round =>
  clear H'; obtain ⟨aa, rfl, HA, HK1, HB⟩ := hrel; cases gk with
  | zero => exact absurd HA.out (by simp [fM.l0])
  | succ k1 =>
   have H := HA.out; clear HA; simp only [fM.l0] at H; replace H := id_ H; obtain ⟨aB, -, H⟩ | ⟨aB, -, H⟩ := H; replace H := kd_ H; obtain ⟨a9, -, H⟩ := H; replace H := kd_ H; obtain ⟨ba, -, H⟩ := H; replace H := bd_ H; obtain ⟨aO, bA, H⟩ := H; by_cases aY : aO = true; subst aY; rw [if_pos rfl] at H; obtain rfl := Option.some.inj H; obtain ⟨aC, aP⟩ := t2_; rotate_left; replace aY := Bool.eq_false_iff.mpr aY; subst aY; rw [if_neg (show ¬ (false = true) by decide)] at H; have H' := a_ H; clear H; obtain ⟨aC, aQ⟩ := t2_; rotate_left
   obtain rfl := Option.some.inj H; have aR := t_; rotate_left
   all_goals (
    try(clear aC; have ac : 0 ≤ (aa : Int) := of_decide_eq_true y1_; have ad : aa < (l0.length : Int) := of_decide_eq_true y1_; obtain ⟨aj, ap, ae, af⟩ := oW a8.out aa ac ad; cases ap; replace ae := cT_ HB.out ae; replace af := cT_ HB.out af; replace ac := eq_true ac; replace ad := eq_true ad; go_wp2_with (first | ((with_reducible refine uM (t := 11) rfl ?_); refine LX (some 16) rfl rfl Tryz.func59 iY rfl #[.agg #[.string ((iU l0 aa).f0), .string ((iU l0 aa).f1)]] #[.pointer (some adp1)] #[.agg #[.string ((iU l0 aa).f0), .string ((iU l0 aa).f1)], .pointer (some adp1)] rfl (by (try simp only [List.map_toArray, List.map_cons, List.map_nil]); first | done | rfl) rfl ?_; (with_reducible refine (oC.calls ((iU l0 aa).f0) ((iU l0 aa).f1) _ a1 _ _ ?side1 bA.out).mono ?_); (case side1 => repeat (first | exact (Kd.l9 bv.out HB.out) | (with_reducible refine Kd.jh ?_ _) | (with_reducible refine Kd.jk ?_ _) | (with_reducible refine Kd.jK ?_))); rintro e bB ⟨rfl, hb⟩; refine ⟨_, rfl, ?_⟩; have n0_ := a_ (fZ y0_ hb); clear HB; have HB := n0_; clear n0_; (try clear hb); (try clear hb9723144); (try clear hk); (try clear hi))))
    try(
      clear aP; go_ret
      exact ⟨y6_, y0_⟩)
    try(
      clear aQ; go_roundg k1
      case measure => have := HK1.out; omega
      case rel => exact ⟨(wrap64 (aa + 1)), y3_, H', ⟨pq⟩, ⟨y0_⟩⟩)
    try(
      clear aR; go_wp2
      go_ret
      exact ⟨y6_, y0_⟩))

/-! ### iG: function 135 -/
def iG.f (k : Nat) (l0 : List (S38)) (a1 : ByteArray) : Option (Bool) := (fM.f k l0 a1).bind fun ai => (some (decide (ai ≥ 0)))
theorem iG.mono : ∀ a0 a1 k, LeO (iG.f k a0 a1) (iG.f (k + 1) a0 a1) := by
  intro a0 a1 k
  unfold iG.f
  repeat' (with_reducible first | exact fM.mono _ _ _ | exact LeO.refl _ | exact LeO.none _ | refine LeO.ite ?_ ?_ | refine LeO.bind ?_ (fun _ => ?_))
theorem iG.calls (k : Nat) (A0 : Option Addr) (c0 : Nat) (l0 : List (S38)) (adp1 : Addr) (a1 : ByteArray) (r : Bool) (w : World) (aN : Kd.C k38 w A0 l0.length l0) (hc0 : l0.length ≤ c0) (a7 : Kd.C Kd.string w (some adp1) 1 [a1]) (h : iG.f k l0 a1 = some r) :
    Calls Tryz.prog 58 #[.slice A0 l0.length c0, .func (.func 59) #[] #[.pointer (some adp1)]] w fun e w' => e = .returned (.bool r) ∧ Below w.heap.size w w' := by
 have a8 := a_ aN; have bo := a_ hc0; clear aN hc0; have bv := a_ a7; clear a7; have HB := a_ (Below.refl w.heap.size w); have H : ((fM.f k l0 a1).bind fun ai => (some (decide (ai ≥ 0)))) = some r := h; clear h; replace H := bd_ H; obtain ⟨ai, A3, H⟩ := H; obtain rfl := Option.some.inj H; go_enter Tryz.func58, Tryz.ntmps58
 go_wp2_with (first | ((with_reducible refine gm (f := 68) rfl ?_); refine gc_ 68 7 Tryz.func68 #[.slice A0 l0.length c0, .func (.func 59) #[] #[.pointer (some adp1)]] ?_; (with_reducible refine (fM.calls k _ _ l0 _ a1 ai _ ?side1 ?side2 ?side3 A3.out).mono ?_); (case side1 => repeat (first | exact a8.out | (with_reducible refine Kd.jh ?_ _) | (with_reducible refine Kd.jk ?_ _) | (with_reducible refine Kd.jK ?_))); (case side2 => exact bo.out); (case side3 => repeat (first | exact bv.out | (with_reducible refine Kd.jh ?_ _) | (with_reducible refine Kd.jk ?_ _) | (with_reducible refine Kd.jK ?_))); rintro e w4 ⟨rfl, hb⟩; refine ⟨_, rfl, ?_⟩; have n0_ := a_ (fZ y0_ hb); clear HB; have HB := n0_; clear n0_; (try clear hb); (try clear hb2); (try clear hk); (try clear hi)))
 go_ret
 exact ⟨y6_, y0_⟩

/-! ### kQ: function 34 -/
def kQ.f (k : Nat) (l0 : List (S38)) (a1 : ByteArray) : Option (Bool) := (iG.f k l0 a1).bind fun aS => (some aS)
theorem kQ.mono : ∀ a0 a1 k, LeO (kQ.f k a0 a1) (kQ.f (k + 1) a0 a1) := by
  intro a0 a1 k
  unfold kQ.f
  repeat' (with_reducible first | exact iG.mono _ _ _ | exact LeO.refl _ | exact LeO.none _ | refine LeO.ite ?_ ?_ | refine LeO.bind ?_ (fun _ => ?_))
theorem kQ.calls (k : Nat) (A0 : Option Addr) (c0 : Nat) (l0 : List (S38)) (a1 : ByteArray) (r : Bool) (w : World) (aN : Kd.C k38 w A0 l0.length l0) (hc0 : l0.length ≤ c0) (h : kQ.f k l0 a1 = some r) :
    Calls Tryz.prog 34 #[.slice A0 l0.length c0, .string a1] w fun e w' => e = .returned (.bool r) ∧ Below w.heap.size w w' := by
 have a8 := a_ aN; have bo := a_ hc0; clear aN hc0; have HB := a_ (Below.refl w.heap.size w); have H : ((iG.f k l0 a1).bind fun aS => (some aS)) = some r := h; clear h; replace H := bd_ H; obtain ⟨aS, A3, H⟩ := H; obtain rfl := Option.some.inj H; go_enter Tryz.func34, Tryz.ntmps34
 go_wp2_with (first | ((with_reducible refine iW (N := 3) rfl ?_); refine jF zr_ (N := 3) zr_ (cs := #[.string a1]) (t := 9) zs_ ?_; intro ao hg w4 hbox hb; have n_ := s4_ (fZ y0_ hb) hbox ((by rw [hg]; exact (fV y0_) : w.heap.size ≤ ao)) ((by rw [hg]; exact (fV y0_) : w.heap.size ≤ ao)); clear HB; obtain ⟨HB, av, bw, GE262⟩ := n_; clear hb hbox hg) | ((with_reducible refine gm (f := 58) rfl ?_); refine gc_ 58 7 Tryz.func58 #[.slice A0 l0.length c0, .func (.func 59) #[] #[.pointer (some ⟨ao, 0, none⟩)]] ?_; (with_reducible refine (iG.calls k _ _ l0 _ a1 aS _ ?side1 ?side2 ?side3 A3.out).mono ?_); (case side1 => repeat (first | exact (Kd.l9 a8.out HB.out) | (with_reducible refine Kd.jh ?_ _) | (with_reducible refine Kd.jk ?_ _) | (with_reducible refine Kd.jK ?_))); (case side2 => exact bo.out); (case side3 => exact Jj (by (with_reducible repeat (first | refine fC ?_ _ | refine fH ?_ | refine fE ?_ _)); exact av.out) rfl); rintro e w5 ⟨rfl, hb⟩; refine ⟨_, rfl, ?_⟩; have n_ := s2_ (gK (g := ao) (o := .cells #[.string a1] 9 (0, 0)) (by (with_reducible repeat (first | refine fC ?_ _ | refine fH ?_ | refine fE ?_ _)); exact av.out) hb) (fZ Ij hb); clear av HB; obtain ⟨av, HB⟩ := n_; (try clear hb); (try clear hb2); (try clear hk); (try clear hi)))
 go_ret
 exact ⟨y6_, Ij⟩

/-! ### l7: function 62 -/
def l7.f (a0 : Int) : Option (Bool) := if a0 ≥ 32 then (some (decide (a0 ≤ 126))) else (some false)
theorem l7.calls (a0 : Int) (r : Bool) (w : World) (h : l7.f a0 = some r) :
    Calls Tryz.prog 62 #[.int .u8 a0] w fun e w' => e = .returned (.bool r) ∧ jP w w' := by
 have H : (if a0 ≥ 32 then (some (decide (a0 ≤ 126))) else (some false)) = some r := h; clear h; replace H := tC H; obtain ⟨bX, -, H⟩ | ⟨bX, -, H⟩ := H
 ·obtain rfl := Option.some.inj H; go_enter Tryz.func62, Tryz.ntmps62
  go_wp2
  go_ret
  exact ⟨y3_, y5_⟩
 ·obtain rfl := Option.some.inj H; go_enter Tryz.func62, Tryz.ntmps62
  go_wp2
  go_ret
  exact ⟨y3_, y5_⟩

/-! ### gU: function 137 -/
def gU.l0 : Nat → ByteArray → Int → Int → Option (Bool)
  | 0, _, _, _ => none
  | k + 1, x0, x7, x8 => if x8 < x7 then (if 0 ≤ x8 then (if x8 < (x0.size : Int) then ((l7.f (bt x0 x8)).bind fun ai => (if ai = true then (gU.l0 k x0 x7 (wrap64 (x8 + 1))) else (some false))) else (none)) else (none)) else (some true)
def gU.f (k : Nat) (a0 : ByteArray)  : Option (Bool) := gU.l0 k a0 (a0.size : Int) 0
theorem gU.iQ : ∀ k, (∀ y0 y1 y2, LeO (gU.l0 k y0 y1 y2) (gU.l0 (k + 1) y0 y1 y2))
  | 0 => fun _ _ _ r h => by simp [gU.l0] at h
  | k + 1 => by
    have aM := gU.iQ k
    · intro y0 y1 y2
      unfold gU.l0
      repeat' (with_reducible first | exact aM _ _ _ | exact LeO.refl _ | exact LeO.none _ | refine LeO.ite ?_ ?_ | refine LeO.bind ?_ (fun _ => ?_))
theorem gU.mono : ∀ a0 k, LeO (gU.f k a0) (gU.f (k + 1) a0) := by
  intro a0 k
  have aM := gU.iQ k
  unfold gU.f
  repeat' (with_reducible first | exact aM _ _ _ | exact LeO.refl _ | exact LeO.none _ | refine LeO.ite ?_ ?_ | refine LeO.bind ?_ (fun _ => ?_))
theorem gU.calls (k : Nat) (a0 : ByteArray)  (r : Bool) (w : World) (h : gU.f k a0 = some r) :
    Calls Tryz.prog 40 #[.string a0, .func (.func 62) #[] #[]] w fun e w' => e = .returned (.bool r) ∧ jP w w' := by
 have H : (gU.l0 k a0 (a0.size : Int) 0) = some r := h; clear h; have H' := a_ H; clear H; go_enter Tryz.func40, Tryz.ntmps40
 go_wp2
 go_loopg [8] k (fun kq v8 w' => ∃ (aa : Int), v8 = .int .i64 aa ∧ fD (gU.l0 kq a0 (a0.size : Int) aa = some r) ∧ fD (kq ≤ k) ∧ jP w w')
 case atStart => exact ⟨(0), y3_, H', ⟨Nat.le_refl _⟩, y5_⟩
 case round =>
  clear H'; obtain ⟨aa, rfl, HA, HK1, ⟨m1, rfl⟩⟩ := hrel; cases gk with
  | zero => exact absurd HA.out (by simp [gU.l0])
  | succ k1 =>
   have H := HA.out; clear HA; simp only [gU.l0] at H; replace H := id_ H; obtain ⟨aB, -, H⟩ | ⟨aB, -, H⟩ := H; replace H := kd_ H; obtain ⟨a9, -, H⟩ := H; replace H := kd_ H; obtain ⟨ba, -, H⟩ := H; replace H := bd_ H; obtain ⟨aO, bA, H⟩ := H; by_cases aY : aO = true; subst aY; rw [if_pos rfl] at H; have H' := a_ H; clear H; obtain ⟨aC, aP⟩ := t2_; rotate_left; replace aY := Bool.eq_false_iff.mpr aY; subst aY; rw [if_neg (show ¬ (false = true) by decide)] at H; obtain rfl := Option.some.inj H; obtain ⟨aC, aQ⟩ := t2_; rotate_left
   obtain rfl := Option.some.inj H; have aR := t_; rotate_left
   all_goals (
    try(clear aC; have ac : 0 ≤ (aa : Int) := of_decide_eq_true y1_; have ad : aa < (a0.size : Int) := of_decide_eq_true y1_; have bp := lL a0 aa; replace ac := eq_true ac; replace ad := eq_true ad; go_wp2_with (first | ((with_reducible refine uM (t := 11) rfl ?_); refine Bh (some 15) rfl rfl Tryz.func62 iY rfl #[.int .u8 (bt a0 aa)] rfl Jh ?_; (with_reducible refine (l7.calls (bt a0 aa) _ _ bA.out).mono ?_); rintro e w' ⟨rfl, ⟨nd, rfl⟩⟩; refine ⟨_, rfl, ?_⟩)))
    try(
      clear aP; go_roundg k1
      case measure => have := HK1.out; omega
      case rel => exact ⟨(wrap64 (aa + 1)), y3_, H', ⟨pq⟩, y5_⟩)
    try(
      clear aQ; go_ret
      exact ⟨y3_, y5_⟩)
    try(
      clear aR; go_wp2
      go_ret
      exact ⟨y3_, y5_⟩))

/-! ### kM: function 42 -/
def kM.f (k : Nat) (a0 : ByteArray) : Option (Int) := (iH.f (decide ((a0.size : Int) > 40)) 2).bind fun ai => ((gU.f k a0).bind fun aA => ((iH.f (!aA) 5).bind fun au => ((fP.f k (([ai, au] : List Int))).bind fun aG => (some aG))))
theorem kM.mono : ∀ a0 k, LeO (kM.f k a0) (kM.f (k + 1) a0) := by
  intro a0 k
  unfold kM.f
  repeat' (with_reducible first | exact gU.mono _ _ | exact fP.mono _ _ | exact LeO.refl _ | exact LeO.none _ | refine LeO.ite ?_ ?_ | refine LeO.bind ?_ (fun _ => ?_))
theorem kM.calls (k : Nat) (a0 : ByteArray) (r : Int) (w : World) (h : kM.f k a0 = some r) :
    Calls Tryz.prog 42 #[.string a0] w fun e w' => e = .returned (.int .i64 r) ∧ Below w.heap.size w w' := by
 have HB := a_ (Below.refl w.heap.size w); have H : ((iH.f (decide ((a0.size : Int) > 40)) 2).bind fun ai => ((gU.f k a0).bind fun aA => ((iH.f (!aA) 5).bind fun au => ((fP.f k (([ai, au] : List Int))).bind fun aG => (some aG))))) = some r := h; clear h; replace H := bd_ H; obtain ⟨ai, A2, H⟩ := H; replace H := bd_ H; obtain ⟨aA, A3, H⟩ := H; replace H := bd_ H; obtain ⟨au, A4, H⟩ := H; obtain ⟨bj, hy_⟩ : ∃ y_ : List Int, y_ = (([ai, au] : List Int)) := ⟨_, rfl⟩; replace H : ((fP.f k bj).bind fun aG => (some aG)) = some r := z0_; have bb := a_ hy_; clear hy_; replace H := bd_ H; obtain ⟨aG, A5, H⟩ := H; obtain rfl := Option.some.inj H; go_enter Tryz.func42, Tryz.ntmps42
 go_wp2_with (first | ((with_reducible refine gm (f := 20) rfl ?_); refine gc_ 20 6 Tryz.func20 #[.bool (decide ((a0.size : Int) > 40)), .int .i64 2] ?_; (with_reducible refine (iH.calls (decide ((a0.size : Int) > 40)) 2 ai _ A2.out).mono ?_); rintro e w' ⟨rfl, ⟨nd, rfl⟩⟩; refine ⟨_, rfl, ?_⟩) | ((with_reducible refine gm (f := 40) rfl ?_); refine gc_ 40 8 Tryz.func40 #[.string a0, .func (.func 62) #[] #[]] ?_; (with_reducible refine (gU.calls k a0  aA _ A3.out).mono ?_); rintro e w' ⟨rfl, ⟨nd, rfl⟩⟩; refine ⟨_, rfl, ?_⟩) | ((with_reducible refine gm (f := 20) rfl ?_); refine gc_ 20 10 Tryz.func20 #[.bool (!aA), .int .i64 5] ?_; (with_reducible refine (iH.calls (!aA) 5 au _ A4.out).mono ?_); rintro e w' ⟨rfl, ⟨nd, rfl⟩⟩; refine ⟨_, rfl, ?_⟩) | ((with_reducible refine iW (N := 11) rfl ?_); refine Kd.oP (Kd.int .i64) _ 2 ?hg (N := 11) ?hd (xs := ([ai, au] : List Int)) (inner := [.int .i64 ai, .int .i64 au]) (ok := fun _ => True) (okp := fun _ => True) ?hr ?hp (fun _ hk => hk) trivial (Below.refl _ _) (Nat.le_refl _) lI ?_; (case hd => rfl); (case hg => rfl); (case hr => first | (go_simp; done) | (go_simp; rfl)); (case hp => exact (iV.one (show Kd.M (Kd.int .i64) _ _ _ ai [.int .i64 ai] from rfl) (iV.one (show Kd.M (Kd.int .i64) _ _ _ au [.int .i64 au] from rfl) (iV.none _ _)))); intro b8 w6 bC hb hg_ hnew_; clear hg_ hnew_; (first | rw [← bb.out] at bC | (simp only [Int.reduceToNat] at bC; rw [← bb.out] at bC)); have n_ := s2_ (Kd.jQ bC (fV y0_)) (fZ y0_ hb); clear HB; obtain ⟨aT, HB⟩ := n_; clear hb bC; obtain ⟨b9, ca, cb⟩ := Kd.jc aT.out; subst cb) | ((with_reducible refine gm (f := 17) rfl ?_); refine gc_ 17 12 Tryz.func17 #[.slice b9 bj.length ca] ?_; (with_reducible refine (fP.calls k _ _ bj aG _ ?side1 ?side2 A5.out).mono ?_); (case side1 => repeat (first | exact (Kd.iL aT.out).2.2 | (with_reducible refine Kd.jh ?_ _) | (with_reducible refine Kd.jk ?_ _) | (with_reducible refine Kd.jK ?_))); (case side2 => exact (Kd.iL aT.out).2.1); rintro e w' ⟨rfl, ⟨nd, rfl⟩⟩; refine ⟨_, rfl, ?_⟩))
 go_ret
 exact ⟨y6_, y0_⟩

/-! ### ik: function 22 -/
def ik.l0 : Nat → List (S38) → List (S38) → Int → Int → Option (Int)
  | 0, _, _, _, _ => none
  | k + 1, x0, x6, x7, x8 => if x8 < x7 then (if 0 ≤ x8 then (if x8 < (x6.length : Int) then ((jw.f k ((iU x6 x8).f0)).bind fun bY => (if x8 ≤ (x0.length : Int) then ((kQ.f k (x0.take (x8 : Int).toNat) ((iU x6 x8).f0)).bind fun bk => ((iH.f bk 6).bind fun bl => ((kM.f k ((iU x6 x8).f1)).bind fun bm => ((fP.f k (([bY, bl, bm] : List Int))).bind fun aD => (if aD = 0 then (ik.l0 k x0 x6 x7 (wrap64 (x8 + 1))) else (some aD)))))) else (none))) else (none)) else (none)) else (some 0)
def ik.f (k : Nat) (l0 : List (S38)) : Option (Int) := ik.l0 k l0 l0 (l0.length : Int) 0
theorem ik.iQ : ∀ k, (∀ y0 y1 y2 y3, LeO (ik.l0 k y0 y1 y2 y3) (ik.l0 (k + 1) y0 y1 y2 y3))
  | 0 => fun _ _ _ _ r h => by simp [ik.l0] at h
  | k + 1 => by
    have aM := ik.iQ k
    · intro y0 y1 y2 y3
      unfold ik.l0
      repeat' (with_reducible first | exact aM _ _ _ _ | exact jw.mono _ _ | exact fP.mono _ _ | exact kQ.mono _ _ _ | exact kM.mono _ _ | exact LeO.refl _ | exact LeO.none _ | refine LeO.ite ?_ ?_ | refine LeO.bind ?_ (fun _ => ?_))
theorem ik.mono : ∀ a0 k, LeO (ik.f k a0) (ik.f (k + 1) a0) := by
  intro a0 k
  have aM := ik.iQ k
  unfold ik.f
  repeat' (with_reducible first | exact aM _ _ _ _ | exact jw.mono _ _ | exact fP.mono _ _ | exact kQ.mono _ _ _ | exact kM.mono _ _ | exact LeO.refl _ | exact LeO.none _ | refine LeO.ite ?_ ?_ | refine LeO.bind ?_ (fun _ => ?_))
def ik.T4 : Bool × List (List Nat × List Nat) := (true, [([], []), ([0], [0]), ([1], [1]), ([], []), ([], []), ([3, 4], [3, 4]), ([], []), ([6], [6]), ([5, 7, 2], [5, 7]), ([8, 8], [8]), ([], []), ([10], [10]), ([11, 9], [11]), ([2, 9, 12], [2, 9, 12]), ([13, 12], [13]), ([14, 14, 0, 1, 2, 3, 4, 5, 6, 7, 8, 9, 10, 11, 12, 13, 14], [14])])
def ik.B4 : List Nat := [0, 1, 3, 0, 0, 24, 0, 64, 255, 511, 0, 1024, 4095, 8191, 16383, 32767]
theorem ik.Oy : o8 .any (opsOf Tryz.f22 4) = ik.T4 := by kernel_rfl
theorem ik.Ns : ou ik.T4.2 ik.B4 = true := by kernel_rfl
theorem ik.calls (k : Nat) (A0 : Option Addr) (c0 : Nat) (l0 : List (S38)) (r : Int) (w : World) (aN : Kd.C k38 w A0 l0.length l0) (hc0 : l0.length ≤ c0) (h : ik.f k l0 = some r) :
    Calls Tryz.prog 22 #[.slice A0 l0.length c0] w fun e w' => e = .returned (.int .i64 r) ∧ Below w.heap.size w w' := by
 have hu38 := Tryz.underlying38; have a8 := a_ aN; have bo := a_ hc0; clear aN hc0; have HB := a_ (Below.refl w.heap.size w); have H : (ik.l0 k l0 l0 (l0.length : Int) 0) = some r := h; clear h; have H' := a_ H; clear H; go_enter Tryz.func22, Tryz.ntmps22
 go_wp2
 go_loopg [8] k (fun kq v8 w' => ∃ (aa : Int), v8 = .int .i64 aa ∧ fD (ik.l0 kq l0 l0 (l0.length : Int) aa = some r) ∧ fD (kq ≤ k) ∧ fD (Below w.heap.size w w'))
 case atStart => exact ⟨(0), y3_, H', ⟨Nat.le_refl _⟩, ⟨y0_⟩⟩
 case round =>
  clear H'; obtain ⟨aa, rfl, HA, HK1, HB⟩ := hrel; cases gk with
  | zero => exact absurd HA.out (by simp [ik.l0])
  | succ k1 =>
   have H := HA.out; clear HA; simp only [ik.l0] at H; replace H := id_ H; obtain ⟨aB, -, H⟩ | ⟨aB, -, H⟩ := H; replace H := kd_ H; obtain ⟨a9, -, H⟩ := H; replace H := kd_ H; obtain ⟨ba, -, H⟩ := H; replace H := bd_ H; obtain ⟨aO, bA, H⟩ := H; have cc := eq_true (of_decide_eq_true y1_ : 0 ≤ aa); replace H := kq_ H; obtain ⟨b3, b4, -, H⟩ := H; obtain ⟨aU, hy_⟩ : ∃ y_ : List (S38), y_ = (l0.take (aa : Int).toNat) := ⟨_, rfl⟩; replace H : ((kQ.f k1 aU ((iU l0 aa).f0)).bind fun bk => ((iH.f bk 6).bind fun bl => ((kM.f k1 ((iU l0 aa).f1)).bind fun bm => ((fP.f k1 (([aO, bl, bm] : List Int))).bind fun aD => (if aD = 0 then (ik.l0 k1 l0 l0 (l0.length : Int) (wrap64 (aa + 1))) else (some aD)))))) = some r := z0_; have bc := a_ hy_; clear hy_; replace H := bd_ H; obtain ⟨bZ, cd, H⟩ := H; replace H := bd_ H; obtain ⟨bq, ce, H⟩ := H; replace H := bd_ H; obtain ⟨br, cf, H⟩ := H; obtain ⟨bn, hy_⟩ : ∃ y_ : List Int, y_ = (([aO, bq, br] : List Int)) := ⟨_, rfl⟩; replace H : ((fP.f k1 bn).bind fun aD => (if aD = 0 then (ik.l0 k1 l0 l0 (l0.length : Int) (wrap64 (aa + 1))) else (some aD))) = some r := z0_; have bd := a_ hy_; clear hy_; replace H := bd_ H; obtain ⟨cg, ch, H⟩ := H; replace H := ie_ H; obtain ⟨bD, bE, -, H⟩ | ⟨bD, bE, ck, H⟩ := H; have H' := a_ H; clear H; obtain ⟨aC, aP⟩ := t2_; rotate_left; obtain rfl := Option.some.inj H; obtain ⟨aC, aQ⟩ := t2_; rotate_left
   obtain rfl := Option.some.inj H; have aR := t_; rotate_left
   all_goals (
    try(
      clear aC; have ac : 0 ≤ (aa : Int) := of_decide_eq_true y1_; have ad : aa < (l0.length : Int) := of_decide_eq_true y1_; obtain ⟨aj, ap, ae, af⟩ := oW a8.out aa ac ad; cases ap; replace ae := cT_ HB.out ae; replace af := cT_ HB.out af; replace ac := eq_true ac; replace ad := eq_true ad; try go_wp2_with (first | ((with_reducible refine iW (N := 4) rfl ?_); refine jF zr_ (N := 4) zr_ (cs := #[.string (⟨#[]⟩ : ByteArray), .string (⟨#[]⟩ : ByteArray)]) (t := 38) zs_ ?_; intro ab hg aq hbox hb; have n_ := s4_ (fZ y0_ hb) hbox ((by rw [hg]; exact (fV y0_) : w.heap.size ≤ ab)) ((by rw [hg]; exact (fV y0_) : w.heap.size ≤ ab)); clear HB; obtain ⟨HB, BK9659740, bs, GE9659740⟩ := n_; clear hb hbox hg; obtain ⟨aZ, a2, a3, a4⟩ := pO BK9659740.out))
      have n0_ : fD (((aq.setCell ⟨ab, 0, none⟩ (.string ((iU l0 aa).f0))).setCell ⟨ab, 1, none⟩ (.string ((iU l0 aa).f1))).heap[ab]? = some (.cells #[.string ((iU l0 aa).f0), .string ((iU l0 aa).f1)] 38 (0, 0))) := ⟨by (with_reducible repeat (first | refine fC ?_ _ | refine fH ?_ | refine fE ?_ _)); refine iJ (cs := #[.string ((iU l0 aa).f0), .string (⟨#[]⟩ : ByteArray)]) ?_ 1 _ rfl; (with_reducible repeat (first | refine fC ?_ _ | refine fH ?_ | refine fE ?_ _)); refine iJ (cs := #[.string (⟨#[]⟩ : ByteArray), .string (⟨#[]⟩ : ByteArray)]) ?_ 0 _ rfl; (with_reducible repeat (first | refine fC ?_ _ | refine fH ?_ | refine fE ?_ _)); exact BK9659740.out⟩; have n1_ : fD (Below w.heap.size w ((aq.setCell ⟨ab, 0, none⟩ (.string ((iU l0 aa).f0))).setCell ⟨ab, 1, none⟩ (.string ((iU l0 aa).f1)))) := ⟨CB⟩; (try clear BK9659740); (try clear HB); generalize ((aq.setCell ⟨ab, 0, none⟩ (.string ((iU l0 aa).f0))).setCell ⟨ab, 1, none⟩ (.string ((iU l0 aa).f1))) = aV at n0_ n1_ ⊢; have BK9659740 := n0_; have HB := n1_; clear n0_ n1_; have n_ := s2_ (fH BK9659740.out) (gG HB.out); clear BK9659740 HB; obtain ⟨BK9659740, HB⟩ := n_; have ar : (aa : Int) ≤ ((l0.length : Int) : Int) := of_decide_eq_true y1_; obtain ⟨bF, aw, _, aH, _⟩ := info_parts ug; have ak : l0.length ≤ c0 := bo.out; have ax : Kd.C k38 _ (some aj) l0.length l0 := a8.out; have aE := Be (P := Tryz.prog) 31 38 .i64 Tryz.underlying31 aw (some aj) l0.length c0 aa (of_decide_eq_true y1_) ar ak; have al := Kd.Bf (m := (aa : Int).toNat) ax jv; have am : aU.length = (aa : Int).toNat := (by rw [bc.out, List.length_take]; omega); rw [← bc.out] at al; rw [← am] at aE; have ay := a_ al; have aJ := a_ (show aU.length ≤ c0 from by omega); clear al ax ak aw aH; have bu := a_ am; clear am; replace ar := eq_true ar
      refine pF (n := 16) (S := fun w' => w'.cell? ⟨ab, 0, none⟩ = some (.string ((iU l0 aa).f0)) ∧ w'.cell? ⟨ab, 1, none⟩ = some (.string ((iU l0 aa).f1))) (ds := []) #[F_,F_,F_,F_,F_,F_,F_,F_,F_,F_,F_,F_,F_,F_,F_,F_] iY rfl rfl ⟨(fO BK9659740.out 0).trans rfl, (fO BK9659740.out 1).trans rfl⟩ (fun hHeld => ?_); refine mZ ik.Oy ik.Ns (fun HT_ HW_ => ?_); generalize aV.drew = bG at BK9659740 HB ay hHeld ⊢; refine iT (i := 0) (N := some 13) #[T_,F_,F_,F_,F_,F_,F_,F_,F_,F_,F_,F_,F_,F_,F_,F_] rfl rfl z1_ (fun _ _ _ h => h) (Or.inl ⟨rfl, z2_⟩) z3_ ?_; refine iT (i := 3) (N := some 16) #[T_,F_,F_,T_,F_,F_,F_,F_,F_,F_,F_,F_,F_,F_,F_,F_] rfl rfl z1_ (fun _ _ _ h => h) (Or.inl ⟨rfl, z2_⟩) z3_ ?_; refine iT (i := 4) (N := some 17) #[T_,F_,F_,T_,T_,F_,F_,F_,F_,F_,F_,F_,F_,F_,F_,F_] rfl rfl z1_ (fun _ _ _ h => h) (Or.inl ⟨rfl, z2_⟩) z3_ ?_; refine iT (i := 5) (N := some 18) #[T_,F_,F_,T_,T_,T_,F_,F_,F_,F_,F_,F_,F_,F_,F_,F_] rfl rfl z1_ (fun _ _ _ h => h) (Or.inl ⟨rfl, z2_⟩) z3_ ?_; refine iT (i := 6) (N := some 19) #[T_,F_,F_,T_,T_,T_,T_,F_,F_,F_,F_,F_,F_,F_,F_,F_] rfl rfl z1_ (fun _ _ _ h => h) (Or.inl ⟨rfl, z2_⟩) z3_ ?_; refine iT (i := 10) (N := some 23) #[T_,F_,F_,T_,T_,T_,T_,F_,F_,F_,T_,F_,F_,F_,F_,F_] rfl rfl z1_ (fun _ _ _ h => h) (Or.inl ⟨rfl, z2_⟩) z3_ ?_; refine nM (i := 1) (N := some 14) #[T_,T_,F_,T_,T_,T_,T_,F_,F_,F_,T_,F_,F_,F_,F_,F_] rfl rfl z4_ (fun _ _ _ h => h) (Or.inl ⟨rfl, FW⟩) hHeld z3_ ?_; refine nM (i := 7) (N := some 20) #[T_,T_,F_,T_,T_,T_,T_,T_,F_,F_,T_,F_,F_,F_,F_,F_] rfl rfl z4_ (fun _ _ _ h => h) (Or.inl ⟨rfl, FW⟩) hHeld z3_ ?_; refine nM (i := 11) (N := some 24) #[T_,T_,F_,T_,T_,T_,T_,T_,F_,F_,T_,T_,F_,F_,F_,F_] rfl rfl z4_ (fun _ _ _ h => h) (Or.inl ⟨rfl, FW⟩) hHeld z3_ ?_; refine nY (i := 2) (N := some 15) #[T_,T_,T_,T_,T_,T_,T_,T_,F_,F_,T_,T_,F_,F_,F_,F_] rfl rfl (kF HT_.out iY) iO (fun K hK => ?_); refine nG Tryz.func18 iY rfl #[.string ((iU l0 aa).f0)] (by rfl) rfl rfl pz ?_; with_reducible refine (jw.calls k1 ((iU l0 aa).f0) aO _ bA.out).mono ?_
      rintro e bH ⟨rfl, hb⟩; refine ⟨_, rfl, ?_⟩; have n_ := s2_ (gK (g := ab) (o := .cells #[.string ((iU l0 aa).f0), .string ((iU l0 aa).f1)] 38 (0, 0)) Ji hb) (fZ CB hb); clear BK9659740 HB; obtain ⟨BK9659740, HB⟩ := n_; (try clear hb); (try clear hb9800335); (try clear hk); (try clear hi); refine hK.out _ _ ⟨(fO BK9659740.out 0).trans rfl, (fO BK9659740.out 1).trans rfl⟩ (fun hHeld => ?_); clear hK K; refine jl Oh ?_; refine nY (i := 8) (N := some 21) #[T_,T_,T_,T_,T_,T_,T_,T_,T_,F_,T_,T_,F_,F_,F_,F_] rfl rfl (kF HT_.out iY) iO (fun K hK => ?_); refine nG Tryz.func34 iY rfl #[.slice (some aj) aU.length c0, .string ((iU l0 aa).f0)] (by rfl) rfl rfl pz ?_; with_reducible refine (kQ.calls k1 _ _ aU ((iU l0 aa).f0) bZ _ ?side1 ?side2 cd.out).mono ?_
      (case side1 => repeat (first | exact (Kd.l9 ay.out HB.out) | (with_reducible refine Kd.jh ?_ _) | (with_reducible refine Kd.jk ?_ _) | (with_reducible refine Kd.jK ?_))); (case side2 => exact aJ.out); rintro e bI ⟨rfl, hb⟩; refine ⟨_, rfl, ?_⟩; have n_ := s2_ (gK (g := ab) (o := .cells #[.string ((iU l0 aa).f0), .string ((iU l0 aa).f1)] 38 (0, 0)) Ji hb) (fZ CB hb); clear BK9659740 HB; obtain ⟨BK9659740, HB⟩ := n_; (try clear hb); (try clear hb9800335); (try clear hk); (try clear hi); refine hK.out _ _ ⟨(fO BK9659740.out 0).trans rfl, (fO BK9659740.out 1).trans rfl⟩ (fun hHeld => ?_); clear hK K; refine jl OG ?_; refine nY (i := 9) (N := some 22) #[T_,T_,T_,T_,T_,T_,T_,T_,T_,T_,T_,T_,F_,F_,F_,F_] rfl rfl (kF HT_.out iY) iO (fun K hK => ?_); refine nG Tryz.func20 iY rfl #[.bool bZ, .int .i64 6] (by rfl) rfl rfl pz ?_; with_reducible refine (iH.calls bZ 6 bq _ ce.out).mono ?_
      rintro e w' ⟨rfl, ⟨nd, rfl⟩⟩; refine ⟨_, rfl, ?_⟩; refine hK.out _ _ ⟨(fO BK9659740.out 0).trans rfl, (fO BK9659740.out 1).trans rfl⟩ (fun hHeld => ?_); clear hK K; refine jl MV ?_; refine nY (i := 12) (N := some 25) #[T_,T_,T_,T_,T_,T_,T_,T_,T_,T_,T_,T_,T_,F_,F_,F_] rfl rfl (kF HT_.out iY) iO (fun K hK => ?_); refine nG Tryz.func42 iY rfl #[.string ((iU l0 aa).f1)] (by rfl) rfl rfl pz ?_; with_reducible refine (kM.calls k1 ((iU l0 aa).f1) br _ cf.out).mono ?_
      rintro e bJ ⟨rfl, hb⟩; refine ⟨_, rfl, ?_⟩; have n_ := s2_ (gK (g := ab) (o := .cells #[.string ((iU l0 aa).f0), .string ((iU l0 aa).f1)] 38 (0, 0)) Ji hb) (fZ CB hb); clear BK9659740 HB; obtain ⟨BK9659740, HB⟩ := n_; (try clear hb); (try clear hb9800335); (try clear hk); (try clear hi); refine hK.out _ _ ⟨(fO BK9659740.out 0).trans rfl, (fO BK9659740.out 1).trans rfl⟩ (fun hHeld => ?_); clear hK K; refine jl Oj ?_; refine nY (i := 13) (N := some 26) #[T_,T_,T_,T_,T_,T_,T_,T_,T_,T_,T_,T_,T_,T_,F_,F_] rfl rfl (kF HT_.out iY) iO (fun K hK => ?_); refine Kd.kH (Kd.int .i64) _ 2 ?hg (N := 26) ?hd (xs := ([aO, bq, br] : List Int)) (inner := [.int .i64 aO, .int .i64 bq, .int .i64 br]) (ok := fun _ => True) (okp := fun _ => True) ?hr ?hp (fun _ hk => hk) trivial (Below.refl _ _) (Nat.le_refl _) lI ?_; (case hd => rfl); (case hg => rfl); (case hr => first | (go_simp; done) | (go_simp; rfl)); (case hp => exact (iV.one (show Kd.M (Kd.int .i64) _ _ _ aO [.int .i64 aO] from rfl) (iV.one (show Kd.M (Kd.int .i64) _ _ _ bq [.int .i64 bq] from rfl) (iV.one (show Kd.M (Kd.int .i64) _ _ _ br [.int .i64 br] from rfl) (iV.none _ _))))); intro bK bL ah hb hg_ hnew_; clear hg_ hnew_; (first | rw [← bd.out] at ah | (simp only [Int.reduceToNat] at ah; rw [← bd.out] at ah)); have n_ := s3_ (Kd.jQ ah (fV CB)) (gK (g := ab) (o := .cells #[.string ((iU l0 aa).f0), .string ((iU l0 aa).f1)] 38 (0, 0)) Ji hb) (fZ CB hb); clear BK9659740 HB; obtain ⟨HO9369609, BK9659740, HB⟩ := n_; clear hb ah; obtain ⟨aK, aL, az⟩ := Kd.jc HO9369609.out; (first | subst az | (injection az with f1_ f2_ f3_; have f4_ := f1_.symm; have f5_ := f3_.symm; clear f1_ f2_ f3_; subst f4_; subst f5_))
      refine hK.out _ _ ⟨(fO BK9659740.out 0).trans rfl, (fO BK9659740.out 1).trans rfl⟩ (fun hHeld => ?_); clear hK K; refine jl MK ?_; refine nY (i := 14) (N := some 27) #[T_,T_,T_,T_,T_,T_,T_,T_,T_,T_,T_,T_,T_,T_,T_,F_] rfl rfl (kF HT_.out iY) iO (fun K hK => ?_); refine nG Tryz.func17 iY rfl #[.slice aK bn.length aL] (by rfl) rfl rfl pz ?_; with_reducible refine (fP.calls k1 _ _ bn cg _ ?side1 ?side2 ch.out).mono ?_
      (case side1 => repeat (first | exact (Kd.iL HO9369609.out).2.2 | (with_reducible refine Kd.jh ?_ _) | (with_reducible refine Kd.jk ?_ _) | (with_reducible refine Kd.jK ?_))); (case side2 => exact (Kd.iL HO9369609.out).2.1); rintro e w' ⟨rfl, ⟨nd, rfl⟩⟩; refine ⟨_, rfl, ?_⟩; refine hK.out _ _ ⟨(fO BK9659740.out 0).trans rfl, (fO BK9659740.out 1).trans rfl⟩ (fun hHeld => ?_); clear hK K; refine jl MN ?_; refine iT (i := 15) (N := some 5) #[T_,T_,T_,T_,T_,T_,T_,T_,T_,T_,T_,T_,T_,T_,T_,T_] rfl rfl z1_ (fun _ _ _ h => h) (Or.inl ⟨rfl, z2_⟩) z3_ ?_; refine rE (oO HT_.out iY) ?_; try go_wp2)
    try(
      clear aP; go_roundg k1
      case measure => have := HK1.out; omega
      case rel => exact ⟨(wrap64 (aa + 1)), y3_, H', ⟨pq⟩, ⟨CB⟩⟩)
    try(
      clear aQ; go_ret
      exact ⟨y6_, CB⟩)
    try(
      clear aR; go_wp2
      go_ret
      exact ⟨y6_, y0_⟩))

end Go.Proofs.YtbibioffldkanaaGreatDoor.K
