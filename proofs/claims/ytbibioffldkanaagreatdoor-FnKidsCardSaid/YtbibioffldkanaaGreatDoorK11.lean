import Derived.Test.YtbibioffldkanaaGreatDoorK0
import Derived.Test.YtbibioffldkanaaGreatDoorK9
import Derived.Test.YtbibioffldkanaaGreatDoorK10
-- Written by a program of this session's own (xp.py) for this seat.
namespace Go.Proofs.YtbibioffldkanaaGreatDoor.K
open Go.RowKit Go.Proofs.YtbibioffldkanaaGreatDoorW.PrintWords Go.Proofs.YtbibioffldkanaaGreatDoorW.PrintLast Go.Proofs.YtbibioffldkanaaGreatDoorW.PrintMore
attribute [local go_sem] Instr.field asAgg
attribute [local go_sem] lS lQ mY mX lm lq lT lU   -- for this text's walks alone
set_option maxHeartbeats 8000000
set_option maxRecDepth 100000
set_option linter.unusedVariables false
set_option linter.unusedSimpArgs false

attribute [local go_sem high] MJ
/-! ### jo: function 25 -/
def jo.l0 : Nat → Int → List Int → List (S33) → Int → Int → Option (List Int)
  | 0, _, _, _, _, _ => none
  | k + 1, x1, x5, x9, cf, bd => if bd < cf then (if 0 ≤ bd then (if bd < (x9.length : Int) then (if ((fJ x9 bd).f1) = x1 then (if bd > 0 then (if x5.length < 17592186044416 then (jo.l0 k x1 (x5 ++ [bd]) x9 cf (wrap64 (bd + 1))) else (none)) else (jo.l0 k x1 x5 x9 cf (wrap64 (bd + 1)))) else (jo.l0 k x1 x5 x9 cf (wrap64 (bd + 1)))) else (none)) else (none)) else (some x5)
def jo.f (k : Nat) (l0 : List (S33)) (a1 : Int) : Option (List Int) := jo.l0 k a1 (([] : List Int)) l0 (l0.length : Int) 0
theorem jo.iQ : ∀ k, (∀ y0 y1 y2 y3 y4, LeO (jo.l0 k y0 y1 y2 y3 y4) (jo.l0 (k + 1) y0 y1 y2 y3 y4))
  | 0 => fun _ _ _ _ _ r h => by simp [jo.l0] at h
  | k + 1 => by
    have br := jo.iQ k
    · intro y0 y1 y2 y3 y4
      unfold jo.l0
      repeat' (with_reducible first | exact br _ _ _ _ _ | exact LeO.refl _ | exact LeO.none _ | refine LeO.ite ?_ ?_ | refine LeO.bind ?_ (fun _ => ?_))
theorem jo.mono : ∀ a0 a1 k, LeO (jo.f k a0 a1) (jo.f (k + 1) a0 a1) := by
  intro a0 a1 k
  have br := jo.iQ k
  unfold jo.f
  repeat' (with_reducible first | exact br _ _ _ _ _ | exact LeO.refl _ | exact LeO.none _ | refine LeO.ite ?_ ?_ | refine LeO.bind ?_ (fun _ => ?_))
theorem jo.calls (k : Nat) (A0 : Option Addr) (c0 : Nat) (l0 : List (S33)) (a1 : Int) (r : List Int) (w : World) (bs : Kd.C k33 w A0 l0.length l0) (hc0 : l0.length ≤ c0) (h : jo.f k l0 a1 = some r) :
    Calls Tryz.prog 25 #[.slice A0 l0.length c0, .int .i64 a1] w fun e w' => ∃ v0_ : Value, e = .returned (v0_) ∧ Kd.R (Kd.int .i64) 2 w' w.heap.size (fun _ => True) v0_ r ∧ Below w.heap.size w w' := by
 have hu33 := Tryz.underlying33; have bA := a_ bs; have cy := a_ hc0; clear bs hc0; have HB := a_ (Below.refl w.heap.size w); have H : (jo.l0 k a1 (([] : List Int)) l0 (l0.length : Int) 0) = some r := h; clear h; obtain ⟨cG, hy_⟩ : ∃ y_ : List Int, y_ = (([] : List Int)) := ⟨_, rfl⟩; replace H : (jo.l0 k a1 cG l0 (l0.length : Int) 0) = some r := z0_; have b4 := a_ hy_; clear hy_; have H' := a_ H; clear H; go_enter Tryz.func25, Tryz.ntmps25
 go_wp2_with (first | ((with_reducible refine iW (N := 8) rfl ?_); refine Kd.oP (Kd.int .i64) _ 2 ?hg (N := 8) ?hd (xs := ([] : List Int)) (inner := []) (ok := fun _ => True) (okp := fun _ => True) ?hr ?hp (fun _ hk => hk) trivial (Below.refl _ _) (Nat.le_refl _) lI ?_; (case hd => rfl); (case hg => rfl); (case hr => first | (go_simp; done) | (go_simp; rfl)); (case hp => exact (iV.none _ _)); intro dj w3 cH hb hg_ hnew_; clear hg_ hnew_; (first | rw [← b4.out] at cH | (simp only [Int.reduceToNat] at cH; rw [← b4.out] at cH)); have n_ := s2_ (Kd.jQ cH (fV y0_)) (fZ y0_ hb); clear HB; obtain ⟨cI, HB⟩ := n_; clear hb cH))
 go_loopg [5, 11] k (fun kq v5 c4 w' => ∃ (bj : List Int) (x11_1 : Int), c4 = .int .i64 x11_1 ∧ fD (jo.l0 kq a1 bj l0 (l0.length : Int) x11_1 = some r) ∧ fD (kq ≤ k) ∧ fD (Kd.R (Kd.int .i64) 2 w' w.heap.size (fun _ => True) v5 bj) ∧ fD (Below w.heap.size w w'))
 case atStart => exact ⟨(cG), (0), y3_, H', ⟨Nat.le_refl _⟩, ⟨by (with_reducible repeat (first | apply Kd.iq | apply Kd.gY | apply Kd.iE)); exact cI.out⟩, ⟨y0_⟩⟩
 case round =>
  clear H'; obtain ⟨bj, x11_1, rfl, HA, HK1, HO_5, HB⟩ := hrel; cases gk with
  | zero => exact absurd HA.out (by simp [jo.l0])
  | succ k1 =>
   have H := HA.out; clear HA; simp only [jo.l0] at H; replace H := id_ H; obtain ⟨aU, -, H⟩ | ⟨aU, -, H⟩ := H; replace H := kd_ H; obtain ⟨bt, -, H⟩ := H; replace H := kd_ H; obtain ⟨b5, -, H⟩ := H; replace H := ie_ H; obtain ⟨bi, bu, -, H⟩ | ⟨bi, bu, dk, H⟩ := H; replace H := qU H; obtain ⟨aV, -, H⟩ | ⟨aV, -, H⟩ := H; replace H := kl_ H; obtain ⟨cJ, H⟩ := H; obtain ⟨cK, hy_⟩ : ∃ y_ : List Int, y_ = (bj ++ [x11_1]) := ⟨_, rfl⟩; replace H : (jo.l0 k1 a1 cK l0 (l0.length : Int) (wrap64 (x11_1 + 1))) = some r := z0_; have cL := a_ hy_; clear hy_; have H' := a_ H; clear H; obtain ⟨aK, a6⟩ := t2_; rotate_left
   have H' := a_ H; clear H; obtain ⟨aK, aZ⟩ := t2_; rotate_left; have H' := a_ H; clear H; obtain ⟨aK, aZ⟩ := t2_; rotate_left
   obtain rfl := Option.some.inj H; have be := t_; rotate_left
   all_goals (
    try(
      clear aK; have ae : 0 ≤ (x11_1 : Int) := of_decide_eq_true y1_; have af : x11_1 < (l0.length : Int) := of_decide_eq_true y1_; obtain ⟨am, A9922068_2, c9922068_2, aq, aj, ak, ay, az, aA⟩ := nC bA.out x11_1 ae af; cases aq; replace aj := cT_ HB.out aj; replace ak := cT_ HB.out ak; replace ay := cT_ HB.out ay; have HR9922068_2 := a_ aA; have b6 := a_ az; clear aA az; replace ae := eq_true ae; replace af := eq_true af
      go_wp2_with (first | ((with_reducible refine iW (N := 7) rfl ?_); refine jF zr_ (N := 7) zr_ (cs := #[.string (⟨#[]⟩ : ByteArray), .int .i64 0, .slice none 0 0]) (t := 33) zs_ ?_; intro gb9246348 hg cM hbox hb; have n_ := s5_ (Kd.jY Ic hb) (fZ y0_ hb) hbox ((by rw [hg]; exact (fV y0_) : w.heap.size ≤ gb9246348)) ((by rw [hg]; exact (fV y0_) : w.heap.size ≤ gb9246348)); clear HO_5 HB; obtain ⟨HO_5, HB, BK9246348, cz, GE9246348⟩ := n_; clear hb hbox hg; obtain ⟨bB, bC, bD, bE, bF, bG⟩ := mP BK9246348.out) | ((with_reducible refine ni (b := .append) (xs := #[.tmp 24, .tmp 26]) rfl ?_); at_builtin; refine Kd.pY (Kd.int .i64) (w0 := w) w.heap.size rfl (.tmp 24) (.tmp 26) 27 2 (.int .i64 0) 8 rfl Tryz.underlying27 vV rfl iO jv u5 bj x11_1 [.int .i64 x11_1] (fun _ => True) (fun _ => False) rfl (by first | (go_simp; done) | (go_simp; rfl)) ?aP (fun _ hk => hk.elim) ?aF ?aO ?aB ?aS ?aL ?_; (case aP => exact rfl); (case aB => exact J5); (case aF => exact (fun _ _ => trivial)); (case aO => exact Nr); (case aS => exact (fV J5)); (case aL => have := cJ.out; omega); intro cN cO ho hb hg hat; rw [← cL.out] at ho; have n_ := s3_ (kK (g := gb9246348) (o := .cells #[.string ((fJ l0 x11_1).f0), .int .i64 ((fJ l0 x11_1).f1), .slice A9922068_2 ((fJ l0 x11_1).f2).length c9922068_2] 33 (0, 0)) (by (with_reducible repeat (first | refine fC ?_ _ | refine fH ?_ | refine fE ?_ _)); refine iJ (cs := #[.string ((fJ l0 x11_1).f0), .int .i64 ((fJ l0 x11_1).f1), .slice none 0 0]) ?_ 2 _ rfl; (with_reducible repeat (first | refine fC ?_ _ | refine fH ?_ | refine fE ?_ _)); refine iJ (cs := #[.string ((fJ l0 x11_1).f0), .int .i64 0, .slice none 0 0]) ?_ 1 _ rfl; (with_reducible repeat (first | refine fC ?_ _ | refine fH ?_ | refine fE ?_ _)); refine iJ (cs := #[.string (⟨#[]⟩ : ByteArray), .int .i64 0, .slice none 0 0]) ?_ 0 _ rfl; (with_reducible repeat (first | refine fC ?_ _ | refine fH ?_ | refine fE ?_ _)); exact BK9246348.out) hg (Kd.qL HO_5.out BK9246348.out iO)) hb ho; clear BK9246348 HB HO_5; obtain ⟨BK9246348, HB, bk⟩ := n_; clear ho hb hg hat))
      go_roundg k1
      case measure => have := HK1.out; omega)
    first
    | fail_if_success clear a6
    |(clear a6
      case rel => exact ⟨(cK), (wrap64 (x11_1 + 1)), y3_, H', ⟨pq⟩, ⟨by (with_reducible repeat (first | apply Kd.iq | apply Kd.gY | apply Kd.iE)); exact bk.out⟩, ⟨J5⟩⟩)
    first
    | fail_if_success clear aZ
    |(clear aZ
      case rel => exact ⟨(bj), (wrap64 (x11_1 + 1)), y3_, H', ⟨pq⟩, ⟨Nr⟩, ⟨J5⟩⟩)
    try(
      clear be; go_wp2
      go_ret
      exact ⟨_, y6_, Ic, y0_⟩))

/-! ### kX: function 8 -/
def kX.f (k : Nat) (l0 : List (S33)) (a1 : Int) : Option (Int × List Int) := (gq.f k l0).bind fun cg => ((mM.f a1 (l0.length : Int)).bind fun ch => ((iH.f (!ch) 3).bind fun ci => ((fP.f k (([cg, ci] : List Int))).bind fun a7 => (if a7 = 0 then ((jo.f k l0 a1).bind fun bv => (some (0, bv))) else (some (a7, ([] : List Int)))))))
theorem kX.mono : ∀ a0 a1 k, LeO (kX.f k a0 a1) (kX.f (k + 1) a0 a1) := by
  intro a0 a1 k
  unfold kX.f
  repeat' (with_reducible first | exact gq.mono _ _ | exact fP.mono _ _ | exact jo.mono _ _ _ | exact LeO.refl _ | exact LeO.none _ | refine LeO.ite ?_ ?_ | refine LeO.bind ?_ (fun _ => ?_))
theorem kX.calls (k : Nat) (A0 : Option Addr) (c0 : Nat) (l0 : List (S33)) (a1 : Int) (r1 : Int) (r2 : List Int) (w : World) (bs : Kd.C k33 w A0 l0.length l0) (hc0 : l0.length ≤ c0) (h : kX.f k l0 a1 = some (r1, r2)) :
    Calls Tryz.prog 8 #[.slice A0 l0.length c0, .int .i64 a1] w fun e w' => ∃ v1_ : Value, e = .returned (.agg #[.int .i64 r1, v1_]) ∧ Kd.R (Kd.int .i64) 2 w' w.heap.size (fun _ => True) v1_ r2 ∧ Below w.heap.size w w' := by
 have hu29 := Tryz.underlying29; have bA := a_ bs; have cy := a_ hc0; clear bs hc0; have HB := a_ (Below.refl w.heap.size w); have H : ((gq.f k l0).bind fun cg => ((mM.f a1 (l0.length : Int)).bind fun ch => ((iH.f (!ch) 3).bind fun ci => ((fP.f k (([cg, ci] : List Int))).bind fun a7 => (if a7 = 0 then ((jo.f k l0 a1).bind fun bv => (some (0, bv))) else (some (a7, ([] : List Int)))))))) = some (r1, r2) := h; clear h; replace H := bd_ H; obtain ⟨bl, c5, H⟩ := H; replace H := bd_ H; obtain ⟨cj, c6, H⟩ := H; replace H := bd_ H; obtain ⟨bm, c7, H⟩ := H; obtain ⟨a4, hy_⟩ : ∃ y_ : List Int, y_ = (([bl, bm] : List Int)) := ⟨_, rfl⟩; replace H : ((fP.f k a4).bind fun a7 => (if a7 = 0 then ((jo.f k l0 a1).bind fun bv => (some (0, bv))) else (some (a7, ([] : List Int))))) = some (r1, r2) := z0_; have b7 := a_ hy_; clear hy_; replace H := bd_ H; obtain ⟨bH, cP, H⟩ := H; replace H := ie_ H; obtain ⟨aV, bw, -, H⟩ | ⟨aV, bw, dl, H⟩ := H; replace H := bd_ H; obtain ⟨c8, dm, H⟩ := H; replace H := j2_ H; obtain ⟨rfl, rfl⟩ := H; obtain ⟨aK, aZ⟩ := t2_; rotate_left; replace H := j2_ H; obtain ⟨rfl, rfl⟩ := H; obtain ⟨a6, be⟩ := t2_; rotate_left
 all_goals (
  go_enter Tryz.func8, Tryz.ntmps8
  go_wp2_with (first | ((with_reducible refine iW (N := 4) rfl ?_); refine jF zr_ (N := 4) zr_ (cs := #[.int .i64 0, .slice none 0 0]) (t := 29) zs_ ?_; intro aa hg cQ hbox hb; have n_ := s4_ (fZ y0_ hb) hbox ((by rw [hg]; exact (fV y0_) : w.heap.size ≤ aa)) ((by rw [hg]; exact (fV y0_) : w.heap.size ≤ aa)); clear HB; obtain ⟨HB, BK9919741, cA, GE9919741⟩ := n_; clear hb hbox hg) | ((with_reducible refine gm (f := 6) rfl ?_); refine gc_ 6 7 Tryz.func6 #[.slice A0 l0.length c0] ?_; (with_reducible refine (gq.calls k _ _ l0 bl _ ?side1 ?side2 c5.out).mono ?_); (case side1 => repeat (first | exact (Kd.l9 bA.out HB.out) | (with_reducible refine Kd.jh ?_ _) | (with_reducible refine Kd.jk ?_ _) | (with_reducible refine Kd.jK ?_))); (case side2 => exact cy.out); rintro e ah ⟨rfl, hb⟩; refine ⟨_, rfl, ?_⟩; have n_ := s2_ (gK (g := aa) (o := .cells #[.int .i64 0, .slice none 0 0] 29 (0, 0)) Ew hb) (fZ zo hb); clear BK9919741 HB; obtain ⟨BK9919741, HB⟩ := n_; (try clear hb); (try clear hb9519176); (try clear hk); (try clear hi)) | ((with_reducible refine gm (f := 24) rfl ?_); refine gc_ 24 11 Tryz.func24 #[.int .i64 a1, .int .i64 (l0.length : Int)] ?_; (with_reducible refine (mM.calls a1 (l0.length : Int) cj _ c6.out).mono ?_); rintro e w' ⟨rfl, ⟨nd, rfl⟩⟩; refine ⟨_, rfl, ?_⟩; (try (rw [lH ah]; generalize hq_ : World.drewN ah _ = ah; have n0_ : fD (ah.heap[aa]? = some (.cells #[.int .i64 0, .slice none 0 0] 29 (0, 0))) := ⟨by rw [← hq_]; exact Ew⟩; have n1_ : fD (Below w.heap.size w ah) := ⟨by rw [← hq_]; exact zo⟩; clear BK9919741 HB hq_; have BK9919741 := n0_; have HB := n1_; clear n0_ n1_))) | ((with_reducible refine gm (f := 20) rfl ?_); refine gc_ 20 13 Tryz.func20 #[.bool (!cj), .int .i64 3] ?_; (with_reducible refine (iH.calls (!cj) 3 bm _ c7.out).mono ?_); rintro e w' ⟨rfl, ⟨nd, rfl⟩⟩; refine ⟨_, rfl, ?_⟩; (try (rw [lH ah]; generalize hq_ : World.drewN ah _ = ah; have n0_ : fD (ah.heap[aa]? = some (.cells #[.int .i64 0, .slice none 0 0] 29 (0, 0))) := ⟨by rw [← hq_]; exact Ew⟩; have n1_ : fD (Below w.heap.size w ah) := ⟨by rw [← hq_]; exact zo⟩; clear BK9919741 HB hq_; have BK9919741 := n0_; have HB := n1_; clear n0_ n1_))) | ((with_reducible refine iW (N := 14) rfl ?_); refine Kd.oP (Kd.int .i64) _ 2 ?hg (N := 14) ?hd (xs := ([bl, bm] : List Int)) (inner := [.int .i64 bl, .int .i64 bm]) (ok := fun _ => True) (okp := fun _ => True) ?hr ?hp (fun _ hk => hk) trivial (Below.refl _ _) (Nat.le_refl _) lI ?_; (case hd => rfl); (case hg => rfl); (case hr => first | (go_simp; done) | (go_simp; rfl)); (case hp => exact (iV.one (show Kd.M (Kd.int .i64) _ _ _ bl [.int .i64 bl] from rfl) (iV.one (show Kd.M (Kd.int .i64) _ _ _ bm [.int .i64 bm] from rfl) (iV.none _ _)))); intro cR ac an hb hg_ hnew_; clear hg_ hnew_; (first | rw [← b7.out] at an | (simp only [Int.reduceToNat] at an; rw [← b7.out] at an)); have n_ := s3_ (Kd.jQ an (fV zo)) (gK (g := aa) (o := .cells #[.int .i64 0, .slice none 0 0] 29 (0, 0)) Ew hb) (fZ zo hb); clear BK9919741 HB; obtain ⟨HO9991688, BK9919741, HB⟩ := n_; clear hb an; obtain ⟨ar, au, bn⟩ := Kd.jc HO9991688.out; subst bn) | (have mkq_ := aK; clear mkq_; (with_reducible refine gm (f := 17) rfl ?_); refine gc_ 17 15 Tryz.func17 #[.slice ar a4.length au] ?_; (with_reducible refine (fP.calls k _ _ a4 bH _ ?side1 ?side2 cP.out).mono ?_); (case side1 => repeat (first | exact (Kd.iL HO9991688.out).2.2 | (with_reducible refine Kd.jh ?_ _) | (with_reducible refine Kd.jk ?_ _) | (with_reducible refine Kd.jK ?_))); (case side2 => exact (Kd.iL HO9991688.out).2.1); rintro e w' ⟨rfl, ⟨nd, rfl⟩⟩; refine ⟨_, rfl, ?_⟩; (try (rw [lH ac]; generalize hq_ : World.drewN ac _ = ac; have n0_ : fD (Kd.R (Kd.int .i64) 2 ac w.heap.size (fun _ => True) (.slice ar a4.length au) a4) := ⟨by rw [← hq_]; exact EH⟩; have n1_ : fD (ac.heap[aa]? = some (.cells #[.int .i64 0, .slice none 0 0] 29 (0, 0))) := ⟨by rw [← hq_]; exact Ew⟩; have n2_ : fD (Below w.heap.size w ac) := ⟨by rw [← hq_]; exact zo⟩; clear HO9991688 BK9919741 HB hq_; have HO9991688 := n0_; have BK9919741 := n1_; have HB := n2_; clear n0_ n1_ n2_))) | ((with_reducible refine gm (f := 25) rfl ?_); refine gc_ 25 22 Tryz.func25 #[.slice A0 l0.length c0, .int .i64 a1] ?_; (with_reducible refine (jo.calls k _ _ l0 a1 c8 _ ?side1 ?side2 dm.out).mono ?_); (case side1 => repeat (first | exact (Kd.l9 bA.out HB.out) | (with_reducible refine Kd.jh ?_ _) | (with_reducible refine Kd.jk ?_ _) | (with_reducible refine Kd.jK ?_))); (case side2 => exact cy.out); rintro e cS ⟨cT, rfl, c9, hb⟩; refine ⟨_, rfl, ?_⟩; have n_ := s4_ (Kd.kz EH (Kd.lD c9) hb) (Kd.jQ (Kd.lM c9 (Kd.mQ EH)) (fV zo)) (gK (g := aa) (o := .cells #[.int .i64 0, .slice none 0 0] 29 (0, 0)) Ew hb) (fZ zo hb); clear HO9991688 BK9919741 HB; obtain ⟨HO9991688, aW, BK9919741, HB⟩ := n_; (try clear hb); (try clear hb9519176); (try clear hk); (try clear hi); (try clear c9); obtain ⟨aX, aY, bo⟩ := Kd.jc aW.out; subst bo; obtain ⟨bI, bJ, bK, bL⟩ := pO BK9919741.out) | (have mkq_ := a6; clear mkq_; (with_reducible refine gm (f := 17) rfl ?_); refine gc_ 17 15 Tryz.func17 #[.slice ar a4.length au] ?_; (with_reducible refine (fP.calls k _ _ a4 bH _ ?side1 ?side2 cP.out).mono ?_); (case side1 => repeat (first | exact (Kd.iL HO9991688.out).2.2 | (with_reducible refine Kd.jh ?_ _) | (with_reducible refine Kd.jk ?_ _) | (with_reducible refine Kd.jK ?_))); (case side2 => exact (Kd.iL HO9991688.out).2.1); rintro e w' ⟨rfl, ⟨nd, rfl⟩⟩; refine ⟨_, rfl, ?_⟩; (try (rw [lH ac]; generalize hq_ : World.drewN ac _ = ac; have n0_ : fD (Kd.R (Kd.int .i64) 2 ac w.heap.size (fun _ => True) (.slice ar a4.length au) a4) := ⟨by rw [← hq_]; exact EH⟩; have n1_ : fD (ac.heap[aa]? = some (.cells #[.int .i64 0, .slice none 0 0] 29 (0, 0))) := ⟨by rw [← hq_]; exact Ew⟩; have n2_ : fD (Below w.heap.size w ac) := ⟨by rw [← hq_]; exact zo⟩; clear HO9991688 BK9919741 HB hq_; have HO9991688 := n0_; have BK9919741 := n1_; have HB := n2_; clear n0_ n1_ n2_)); obtain ⟨bM, bN, bO, bP⟩ := pO BK9919741.out))
  try(clear aZ; refine bodyPost_ret (results_cell_row rfl _ _ aa 29 #[.int .i64 0, .slice aX c8.length aY] (0, 0) _ rfl (by (with_reducible repeat (first | refine fC ?_ _ | refine fH ?_ | refine fE ?_ _)); refine iJ (cs := #[.int .i64 0, .slice none 0 0]) ?_ 1 _ rfl; (with_reducible repeat (first | refine fC ?_ _ | refine fH ?_ | refine fE ?_ _)); refine iJ (cs := #[.int .i64 0, .slice none 0 0]) ?_ 0 _ rfl; (with_reducible repeat (first | refine fC ?_ _ | refine fH ?_ | refine fE ?_ _)); exact BK9919741.out) Tryz.underlying29 rfl iY) rfl ?_; exact ⟨_, y6_, by (with_reducible repeat (first | apply Kd.iq | apply Kd.gY | apply Kd.iE)); exact Kd.iI (Kd.jM (p := ⟨aa, 1, none⟩) (Kd.jM (p := ⟨aa, 0, none⟩) (Kd.kU aW.out BK9919741.out iO) (fun _ hk => hk.2) (.int .i64 0)) (fun _ hk => hk.2) (.slice aX c8.length aY)) (fun _ hk => trivial), zo⟩)
  try(clear be; refine bodyPost_ret (results_cell_row rfl _ _ aa 29 #[.int .i64 bH, .slice none 0 0] (0, 0) _ rfl (by (with_reducible repeat (first | refine fC ?_ _ | refine fH ?_ | refine fE ?_ _)); refine iJ (cs := #[.int .i64 bH, .slice none 0 0]) ?_ 1 _ rfl; (with_reducible repeat (first | refine fC ?_ _ | refine fH ?_ | refine fE ?_ _)); refine iJ (cs := #[.int .i64 0, .slice none 0 0]) ?_ 0 _ rfl; (with_reducible repeat (first | refine fC ?_ _ | refine fH ?_ | refine fE ?_ _)); exact BK9919741.out) Tryz.underlying29 rfl iY) rfl ?_; exact ⟨_, y6_, yY, zo⟩))

/-! ### jq: function 26 -/
def jq.l0 : Nat → ByteArray → List (S38) → Int → Int → Option (ByteArray × Bool)
  | 0, _, _, _, _ => none
  | k + 1, x1, x9, cf, bd => if bd < cf then (if 0 ≤ bd then (if bd < (x9.length : Int) then (if ((iU x9 bd).f0).toList = x1.toList then (some ((iU x9 bd).f1, true)) else (jq.l0 k x1 x9 cf (wrap64 (bd + 1)))) else (none)) else (none)) else (some ((⟨#[]⟩ : ByteArray), false))
def jq.f (k : Nat) (a8 : ByteArray) (a9 : Int) (ap : List (S38)) (a1 : ByteArray) : Option (ByteArray × Bool) := jq.l0 k a1 ap (ap.length : Int) 0
theorem jq.iQ : ∀ k, (∀ y0 y1 y2 y3, LeO (jq.l0 k y0 y1 y2 y3) (jq.l0 (k + 1) y0 y1 y2 y3))
  | 0 => fun _ _ _ _ r h => by simp [jq.l0] at h
  | k + 1 => by
    have br := jq.iQ k
    · intro y0 y1 y2 y3
      unfold jq.l0
      repeat' (with_reducible first | exact br _ _ _ _ | exact LeO.refl _ | exact LeO.none _ | refine LeO.ite ?_ ?_ | refine LeO.bind ?_ (fun _ => ?_))
theorem jq.mono : ∀ a0 a1 a2 a3 k, LeO (jq.f k a0 a1 a2 a3) (jq.f (k + 1) a0 a1 a2 a3) := by
  intro a0 a1 a2 a3 k
  have br := jq.iQ k
  unfold jq.f
  repeat' (with_reducible first | exact br _ _ _ _ | exact LeO.refl _ | exact LeO.none _ | refine LeO.ite ?_ ?_ | refine LeO.bind ?_ (fun _ => ?_))
theorem jq.calls (k : Nat) (a8 : ByteArray) (a9 : Int) (bQ : Option Addr) (bf : Nat) (ap : List (S38)) (a1 : ByteArray) (r1 : ByteArray) (r2 : Bool) (w : World) (b8 : Kd.C k38 w bQ ap.length ap) (hc0_2 : ap.length ≤ bf) (h : jq.f k a8 a9 ap a1 = some (r1, r2)) :
    Calls Tryz.prog 26 #[.agg #[.string a8, .int .i64 a9, .slice bQ ap.length bf], .string a1] w fun e w' => e = .returned (.tuple #[.string r1, .bool r2]) ∧ Below w.heap.size w w' := by
 have hu33 := Tryz.underlying33; have hu38 := Tryz.underlying38; have cU := a_ b8; have de := a_ hc0_2; clear b8 hc0_2; have HB := a_ (Below.refl w.heap.size w); have H : (jq.l0 k a1 ap (ap.length : Int) 0) = some (r1, r2) := h; clear h; have H' := a_ H; clear H; go_enter Tryz.func26, Tryz.ntmps26
 go_wp2_with (first | ((with_reducible refine iW (N := 2) rfl ?_); refine jF zr_ (N := 2) zr_ (cs := #[.string a8, .int .i64 a9, .slice bQ ap.length bf]) (t := 33) zs_ ?_; intro aC hg w3 hbox hb; have n_ := s4_ (fZ y0_ hb) hbox ((by rw [hg]; exact (fV y0_) : w.heap.size ≤ aC)) ((by rw [hg]; exact (fV y0_) : w.heap.size ≤ aC)); clear HB; obtain ⟨HB, BK364, df, GE364⟩ := n_; clear hb hbox hg; obtain ⟨ck, cl, cm, cn, co, cp⟩ := mP BK364.out))
 go_loopg [11] k (fun kq c4 w' => ∃ (x11_1 : Int), c4 = .int .i64 x11_1 ∧ fD (jq.l0 kq a1 ap (ap.length : Int) x11_1 = some (r1, r2)) ∧ fD (kq ≤ k) ∧ fD (w'.heap[aC]? = some (.cells #[.string a8, .int .i64 a9, (.slice bQ ap.length bf)] 33 (0, 0))) ∧ fD (Below w.heap.size w w'))
 case atStart => exact ⟨(0), y3_, H', ⟨Nat.le_refl _⟩, ⟨J6⟩, ⟨Iu⟩⟩
 case round =>
  clear H'; (try clear ck); (try clear cl); (try clear cm); (try clear cn); (try clear co); (try clear cp); obtain ⟨x11_1, rfl, HA, HK1, BK364, HB⟩ := hrel; cases gk with
  | zero => exact absurd HA.out (by simp [jq.l0])
  | succ k1 =>
   have H := HA.out; clear HA; simp only [jq.l0] at H; replace H := id_ H; obtain ⟨aU, -, H⟩ | ⟨aU, -, H⟩ := H; replace H := kd_ H; obtain ⟨bt, -, H⟩ := H; replace H := kd_ H; obtain ⟨b5, -, H⟩ := H; replace H := ie_ H; obtain ⟨bi, bu, -, H⟩ | ⟨bi, bu, dk, H⟩ := H; replace H := j2_ H; obtain ⟨rfl, rfl⟩ := H; obtain ⟨aK, a6⟩ := t2_; rotate_left; have H' := a_ H; clear H; obtain ⟨aK, aZ⟩ := t2_; rotate_left
   replace H := j2_ H; obtain ⟨rfl, rfl⟩ := H; have be := t_; rotate_left
   all_goals (
    try(
      clear aK; have ae : 0 ≤ (x11_1 : Int) := of_decide_eq_true y1_; have af : x11_1 < (ap.length : Int) := of_decide_eq_true y1_; obtain ⟨am, aq, aj, ak⟩ := oW cU.out x11_1 ae af; cases aq; replace aj := cT_ HB.out aj; replace ak := cT_ HB.out ak; replace ae := eq_true ae; replace af := eq_true af
      go_wp2_with (first | ((with_reducible refine iW (N := 7) rfl ?_); refine jF zr_ (N := 7) zr_ (cs := #[.string (⟨#[]⟩ : ByteArray), .string (⟨#[]⟩ : ByteArray)]) (t := 38) zs_ ?_; intro av hg cV hbox hb; have n_ := s7_ (gK (g := aC) (o := .cells #[.string a8, .int .i64 a9, .slice (some am) ap.length bf] 33 (0, 0)) J6 hb) (fZ Iu hb) hbox ((by rw [hg]; exact (fV Iu) : w.heap.size ≤ av)) ((by rw [hg]; exact (fV Iu) : w.heap.size ≤ av)) ((by rw [hg]; exact Nat.ne_of_lt (kJ (g := aC) (o := .cells #[.string a8, .int .i64 a9, .slice (some am) ap.length bf] 33 (0, 0)) J6) : aC ≠ av)) ((by rw [hg]; exact Nat.ne_of_gt (kJ (g := aC) (o := .cells #[.string a8, .int .i64 a9, .slice (some am) ap.length bf] 33 (0, 0)) J6) : av ≠ aC)); clear BK364 HB; obtain ⟨BK364, HB, bp, cB, GE9345616, al, aT⟩ := n_; clear hb hbox hg; have cq := aT.out; have cr := al.out; obtain ⟨bR, bS, bT, bU⟩ := pO bp.out)))
    try(
      clear a6; go_ret2
      exact ⟨y6_, Ku⟩)
    try(
      clear aZ; go_roundg k1
      case measure => have := HK1.out; omega
      case rel => exact ⟨(wrap64 (x11_1 + 1)), y3_, H', ⟨pq⟩, ⟨by (with_reducible repeat (first | refine fC ?_ _ | refine fH ?_ | refine fE ?_ _)); refine jJ ?_ al.out _; (with_reducible repeat (first | refine fC ?_ _ | refine fH ?_ | refine fE ?_ _)); refine jJ ?_ al.out _; (with_reducible repeat (first | refine fC ?_ _ | refine fH ?_ | refine fE ?_ _)); exact BK364.out⟩, ⟨Ku⟩⟩)
    try(
      clear be; go_wp2
      go_ret2
      exact ⟨y6_, Iu⟩))

/-! ### lu: function 9 -/
def lu.f (k : Nat) (l0 : List (S33)) (a1 : Int) (a2 : ByteArray) : Option (Int × ByteArray) := (gq.f k l0).bind fun ct => ((mM.f a1 (l0.length : Int)).bind fun cu => ((iH.f (!cu) 3).bind fun cv => ((fP.f k (([ct, cv] : List Int))).bind fun ba => (if ba = 0 then (if 0 ≤ a1 then (if a1 < (l0.length : Int) then ((jq.f k ((fJ l0 a1).f0) ((fJ l0 a1).f1) ((fJ l0 a1).f2) a2).bind fun aD => (if aD.2 = true then (some (0, aD.1)) else (some (4, (⟨#[]⟩ : ByteArray))))) else (none)) else (none)) else (some (ba, (⟨#[]⟩ : ByteArray)))))))
theorem lu.mono : ∀ a0 a1 a2 k, LeO (lu.f k a0 a1 a2) (lu.f (k + 1) a0 a1 a2) := by
  intro a0 a1 a2 k
  unfold lu.f
  repeat' (with_reducible first | exact gq.mono _ _ | exact fP.mono _ _ | exact jq.mono _ _ _ _ _ | exact LeO.refl _ | exact LeO.none _ | refine LeO.ite ?_ ?_ | refine LeO.bind ?_ (fun _ => ?_))
theorem lu.calls (k : Nat) (A0 : Option Addr) (c0 : Nat) (l0 : List (S33)) (a1 : Int) (a2 : ByteArray) (r1 : Int) (r2 : ByteArray) (w : World) (bs : Kd.C k33 w A0 l0.length l0) (hc0 : l0.length ≤ c0) (h : lu.f k l0 a1 a2 = some (r1, r2)) :
    Calls Tryz.prog 9 #[.slice A0 l0.length c0, .int .i64 a1, .string a2] w fun e w' => e = .returned (.agg #[.int .i64 r1, .string r2]) ∧ Below w.heap.size w w' := by
 have hu35 := Tryz.underlying35; have hu33 := Tryz.underlying33; have bA := a_ bs; have cy := a_ hc0; clear bs hc0; have HB := a_ (Below.refl w.heap.size w); have H : ((gq.f k l0).bind fun ct => ((mM.f a1 (l0.length : Int)).bind fun cu => ((iH.f (!cu) 3).bind fun cv => ((fP.f k (([ct, cv] : List Int))).bind fun ba => (if ba = 0 then (if 0 ≤ a1 then (if a1 < (l0.length : Int) then ((jq.f k ((fJ l0 a1).f0) ((fJ l0 a1).f1) ((fJ l0 a1).f2) a2).bind fun aD => (if aD.2 = true then (some (0, aD.1)) else (some (4, (⟨#[]⟩ : ByteArray))))) else (none)) else (none)) else (some (ba, (⟨#[]⟩ : ByteArray)))))))) = some (r1, r2) := h; clear h; replace H := bd_ H; obtain ⟨bl, c5, H⟩ := H; replace H := bd_ H; obtain ⟨cj, c6, H⟩ := H; replace H := bd_ H; obtain ⟨bm, c7, H⟩ := H; obtain ⟨a5, hy_⟩ : ∃ y_ : List Int, y_ = (([bl, bm] : List Int)) := ⟨_, rfl⟩; replace H : ((fP.f k a5).bind fun ba => (if ba = 0 then (if 0 ≤ a1 then (if a1 < (l0.length : Int) then ((jq.f k ((fJ l0 a1).f0) ((fJ l0 a1).f1) ((fJ l0 a1).f2) a2).bind fun aD => (if aD.2 = true then (some (0, aD.1)) else (some (4, (⟨#[]⟩ : ByteArray))))) else (none)) else (none)) else (some (ba, (⟨#[]⟩ : ByteArray))))) = some (r1, r2) := z0_; have b9 := a_ hy_; clear hy_; replace H := bd_ H; obtain ⟨bH, cP, H⟩ := H; replace H := ie_ H; obtain ⟨aV, bw, -, H⟩ | ⟨aV, bw, dl, H⟩ := H; replace H := kd_ H; obtain ⟨ca, -, H⟩ := H; replace H := kd_ H; obtain ⟨dg, -, H⟩ := H; replace H := bd_ H; obtain ⟨⟨cw, cW⟩, dn, H⟩ := H; replace H : (if cW = true then (some (0, cw)) else (some (4, (⟨#[]⟩ : ByteArray)))) = some (r1, r2) := H; by_cases c3 : cW = true; subst c3; rw [if_pos rfl] at H; replace H := j2_ H; obtain ⟨rfl, rfl⟩ := H; obtain ⟨aK, aZ⟩ := t2_; rotate_left; replace c3 := Bool.eq_false_iff.mpr c3; subst c3; rw [if_neg (show ¬ (false = true) by decide)] at H; replace H := j2_ H; obtain ⟨rfl, rfl⟩ := H; obtain ⟨aK, be⟩ := t2_; rotate_left
 replace H := j2_ H; obtain ⟨rfl, rfl⟩ := H; obtain ⟨a6, da⟩ := t2_; rotate_left
 all_goals (
  go_enter Tryz.func9, Tryz.ntmps9
  go_wp2_with (first | ((with_reducible refine iW (N := 6) rfl ?_); refine jF zr_ (N := 6) zr_ (cs := #[.int .i64 0, .string (⟨#[]⟩ : ByteArray)]) (t := 35) zs_ ?_; intro ab hg cX hbox hb; have n_ := s4_ (fZ y0_ hb) hbox ((by rw [hg]; exact (fV y0_) : w.heap.size ≤ ab)) ((by rw [hg]; exact (fV y0_) : w.heap.size ≤ ab)); clear HB; obtain ⟨HB, BK9246817, cC, GE9246817⟩ := n_; clear hb hbox hg) | ((with_reducible refine gm (f := 6) rfl ?_); refine gc_ 6 11 Tryz.func6 #[.slice A0 l0.length c0] ?_; (with_reducible refine (gq.calls k _ _ l0 bl _ ?side1 ?side2 c5.out).mono ?_); (case side1 => repeat (first | exact (Kd.l9 bA.out HB.out) | (with_reducible refine Kd.jh ?_ _) | (with_reducible refine Kd.jk ?_ _) | (with_reducible refine Kd.jK ?_))); (case side2 => exact cy.out); rintro e ai ⟨rfl, hb⟩; refine ⟨_, rfl, ?_⟩; have n_ := s2_ (gK (g := ab) (o := .cells #[.int .i64 0, .string (⟨#[]⟩ : ByteArray)] 35 (0, 0)) Dx hb) (fZ Bi hb); clear BK9246817 HB; obtain ⟨BK9246817, HB⟩ := n_; (try clear hb); (try clear hb9286869); (try clear hk); (try clear hi)) | ((with_reducible refine gm (f := 24) rfl ?_); refine gc_ 24 15 Tryz.func24 #[.int .i64 a1, .int .i64 (l0.length : Int)] ?_; (with_reducible refine (mM.calls a1 (l0.length : Int) cj _ c6.out).mono ?_); rintro e w' ⟨rfl, ⟨nd, rfl⟩⟩; refine ⟨_, rfl, ?_⟩; (try (rw [lH ai]; generalize hq_ : World.drewN ai _ = ai; have n0_ : fD (ai.heap[ab]? = some (.cells #[.int .i64 0, .string (⟨#[]⟩ : ByteArray)] 35 (0, 0))) := ⟨by rw [← hq_]; exact Dx⟩; have n1_ : fD (Below w.heap.size w ai) := ⟨by rw [← hq_]; exact Bi⟩; clear BK9246817 HB hq_; have BK9246817 := n0_; have HB := n1_; clear n0_ n1_))) | ((with_reducible refine gm (f := 20) rfl ?_); refine gc_ 20 17 Tryz.func20 #[.bool (!cj), .int .i64 3] ?_; (with_reducible refine (iH.calls (!cj) 3 bm _ c7.out).mono ?_); rintro e w' ⟨rfl, ⟨nd, rfl⟩⟩; refine ⟨_, rfl, ?_⟩; (try (rw [lH ai]; generalize hq_ : World.drewN ai _ = ai; have n0_ : fD (ai.heap[ab]? = some (.cells #[.int .i64 0, .string (⟨#[]⟩ : ByteArray)] 35 (0, 0))) := ⟨by rw [← hq_]; exact Dx⟩; have n1_ : fD (Below w.heap.size w ai) := ⟨by rw [← hq_]; exact Bi⟩; clear BK9246817 HB hq_; have BK9246817 := n0_; have HB := n1_; clear n0_ n1_))) | ((with_reducible refine iW (N := 18) rfl ?_); refine Kd.oP (Kd.int .i64) _ 2 ?hg (N := 18) ?hd (xs := ([bl, bm] : List Int)) (inner := [.int .i64 bl, .int .i64 bm]) (ok := fun _ => True) (okp := fun _ => True) ?hr ?hp (fun _ hk => hk) trivial (Below.refl _ _) (Nat.le_refl _) lI ?_; (case hd => rfl); (case hg => rfl); (case hr => first | (go_simp; done) | (go_simp; rfl)); (case hp => exact (iV.one (show Kd.M (Kd.int .i64) _ _ _ bl [.int .i64 bl] from rfl) (iV.one (show Kd.M (Kd.int .i64) _ _ _ bm [.int .i64 bm] from rfl) (iV.none _ _)))); intro cY ad ao hb hg_ hnew_; clear hg_ hnew_; (first | rw [← b9.out] at ao | (simp only [Int.reduceToNat] at ao; rw [← b9.out] at ao)); have n_ := s3_ (Kd.jQ ao (fV Bi)) (gK (g := ab) (o := .cells #[.int .i64 0, .string (⟨#[]⟩ : ByteArray)] 35 (0, 0)) Dx hb) (fZ Bi hb); clear BK9246817 HB; obtain ⟨HO9833658, BK9246817, HB⟩ := n_; clear hb ao; obtain ⟨aw, ax, bq⟩ := Kd.jc HO9833658.out; subst bq) | (have mkq_ := aK; clear mkq_; (with_reducible refine gm (f := 17) rfl ?_); refine gc_ 17 19 Tryz.func17 #[.slice aw a5.length ax] ?_; (with_reducible refine (fP.calls k _ _ a5 bH _ ?side1 ?side2 cP.out).mono ?_); (case side1 => repeat (first | exact (Kd.iL HO9833658.out).2.2 | (with_reducible refine Kd.jh ?_ _) | (with_reducible refine Kd.jk ?_ _) | (with_reducible refine Kd.jK ?_))); (case side2 => exact (Kd.iL HO9833658.out).2.1); rintro e w' ⟨rfl, ⟨nd, rfl⟩⟩; refine ⟨_, rfl, ?_⟩; (try (rw [lH ad]; generalize hq_ : World.drewN ad _ = ad; have n0_ : fD (Kd.R (Kd.int .i64) 2 ad w.heap.size (fun _ => True) (.slice aw a5.length ax) a5) := ⟨by rw [← hq_]; exact IP⟩; have n1_ : fD (ad.heap[ab]? = some (.cells #[.int .i64 0, .string (⟨#[]⟩ : ByteArray)] 35 (0, 0))) := ⟨by rw [← hq_]; exact Dx⟩; have n2_ : fD (Below w.heap.size w ad) := ⟨by rw [← hq_]; exact Bi⟩; clear HO9833658 BK9246817 HB hq_; have HO9833658 := n0_; have BK9246817 := n1_; have HB := n2_; clear n0_ n1_ n2_)); have aM : 0 ≤ (a1 : Int) := of_decide_eq_true y1_; have aN : a1 < (l0.length : Int) := of_decide_eq_true y1_; obtain ⟨cD, bg, bh, bx, aE, aG, aH, aI, aJ⟩ := nC bA.out a1 aM aN; cases bx; replace aE := cT_ HB.out aE; replace aG := cT_ HB.out aG; replace aH := cT_ HB.out aH; have bb := a_ aJ; have bc := a_ aI; clear aJ aI; replace aM := eq_true aM; replace aN := eq_true aN) | ((with_reducible refine gm (f := 26) rfl ?_); refine gc_ 26 30 Tryz.func26 #[.agg #[.string ((fJ l0 a1).f0), .int .i64 ((fJ l0 a1).f1), .slice bg ((fJ l0 a1).f2).length bh], .string a2] ?_; (with_reducible refine (jq.calls k ((fJ l0 a1).f0) ((fJ l0 a1).f1) _ _ ((fJ l0 a1).f2) a2 cw _ _ ?side1 ?side2 dn.out).mono ?_); (case side1 => repeat (first | exact (Kd.l9 bb.out HB.out) | (with_reducible refine Kd.jh ?_ _) | (with_reducible refine Kd.jk ?_ _) | (with_reducible refine Kd.jK ?_))); (case side2 => exact bc.out); rintro e cZ ⟨rfl, hb⟩; refine ⟨_, rfl, ?_⟩; have n_ := s3_ (Kd.jY IP hb) (gK (g := ab) (o := .cells #[.int .i64 0, .string (⟨#[]⟩ : ByteArray)] 35 (0, 0)) Dx hb) (fZ Bi hb); clear HO9833658 BK9246817 HB; obtain ⟨HO9833658, BK9246817, HB⟩ := n_; (try clear hb); (try clear hb9286869); (try clear hk); (try clear hi); obtain ⟨bV, bW, bX, bY⟩ := pO BK9246817.out) | (have mkq_ := a6; clear mkq_; (with_reducible refine gm (f := 17) rfl ?_); refine gc_ 17 19 Tryz.func17 #[.slice aw a5.length ax] ?_; (with_reducible refine (fP.calls k _ _ a5 bH _ ?side1 ?side2 cP.out).mono ?_); (case side1 => repeat (first | exact (Kd.iL HO9833658.out).2.2 | (with_reducible refine Kd.jh ?_ _) | (with_reducible refine Kd.jk ?_ _) | (with_reducible refine Kd.jK ?_))); (case side2 => exact (Kd.iL HO9833658.out).2.1); rintro e w' ⟨rfl, ⟨nd, rfl⟩⟩; refine ⟨_, rfl, ?_⟩; (try (rw [lH ad]; generalize hq_ : World.drewN ad _ = ad; have n0_ : fD (Kd.R (Kd.int .i64) 2 ad w.heap.size (fun _ => True) (.slice aw a5.length ax) a5) := ⟨by rw [← hq_]; exact IP⟩; have n1_ : fD (ad.heap[ab]? = some (.cells #[.int .i64 0, .string (⟨#[]⟩ : ByteArray)] 35 (0, 0))) := ⟨by rw [← hq_]; exact Dx⟩; have n2_ : fD (Below w.heap.size w ad) := ⟨by rw [← hq_]; exact Bi⟩; clear HO9833658 BK9246817 HB hq_; have HO9833658 := n0_; have BK9246817 := n1_; have HB := n2_; clear n0_ n1_ n2_)); obtain ⟨bZ, b0, b1, b2⟩ := pO BK9246817.out))
  try(clear aZ; refine bodyPost_ret (results_cell_row rfl _ _ ab 35 #[.int .i64 0, .string cw] (0, 0) _ rfl (by (with_reducible repeat (first | refine fC ?_ _ | refine fH ?_ | refine fE ?_ _)); refine iJ (cs := #[.int .i64 0, .string (⟨#[]⟩ : ByteArray)]) ?_ 1 _ rfl; (with_reducible repeat (first | refine fC ?_ _ | refine fH ?_ | refine fE ?_ _)); refine iJ (cs := #[.int .i64 0, .string (⟨#[]⟩ : ByteArray)]) ?_ 0 _ rfl; (with_reducible repeat (first | refine fC ?_ _ | refine fH ?_ | refine fE ?_ _)); exact BK9246817.out) Tryz.underlying35 rfl iY) rfl ?_)
  try(clear be; refine bodyPost_ret (results_cell_row rfl _ _ ab 35 #[.int .i64 4, .string (⟨#[]⟩ : ByteArray)] (0, 0) _ rfl (by (with_reducible repeat (first | refine fC ?_ _ | refine fH ?_ | refine fE ?_ _)); refine iJ (cs := #[.int .i64 4, .string (⟨#[]⟩ : ByteArray)]) ?_ 1 _ rfl; (with_reducible repeat (first | refine fC ?_ _ | refine fH ?_ | refine fE ?_ _)); refine iJ (cs := #[.int .i64 0, .string (⟨#[]⟩ : ByteArray)]) ?_ 0 _ rfl; (with_reducible repeat (first | refine fC ?_ _ | refine fH ?_ | refine fE ?_ _)); exact BK9246817.out) Tryz.underlying35 rfl iY) rfl ?_)
  try(clear da; refine bodyPost_ret (results_cell_row rfl _ _ ab 35 #[.int .i64 bH, .string (⟨#[]⟩ : ByteArray)] (0, 0) _ rfl (by (with_reducible repeat (first | refine fC ?_ _ | refine fH ?_ | refine fE ?_ _)); refine iJ (cs := #[.int .i64 bH, .string (⟨#[]⟩ : ByteArray)]) ?_ 1 _ rfl; (with_reducible repeat (first | refine fC ?_ _ | refine fH ?_ | refine fE ?_ _)); refine iJ (cs := #[.int .i64 0, .string (⟨#[]⟩ : ByteArray)]) ?_ 0 _ rfl; (with_reducible repeat (first | refine fC ?_ _ | refine fH ?_ | refine fE ?_ _)); exact BK9246817.out) Tryz.underlying35 rfl iY) rfl ?_)
  exact ⟨y6_, Bi⟩)

/-! ### iy: function 38 -/
def iy.l0 : Nat → List (S38) → List (S38) → Int → Int → Option (Bool)
  | 0, _, _, _, _ => none
  | k + 1, x0, x1, dh, b3 => if b3 < dh then (if 0 ≤ b3 then (if b3 < (x0.length : Int) then (if b3 < (x1.length : Int) then (if (!((((iU x0 b3).f0).toList) == (((iU x1 b3).f0).toList)) || (!((((iU x0 b3).f1).toList) == (((iU x1 b3).f1).toList)))) = true then (some false) else (iy.l0 k x0 x1 dh (wrap64 (b3 + 1)))) else (none)) else (none)) else (none)) else (some true)
def iy.f (k : Nat) (l0 : List (S38)) (l1 : List (S38)) : Option (Bool) := if (l0.length : Int) = (l1.length : Int) then (iy.l0 k l0 l1 (l0.length : Int) 0) else (some false)
theorem iy.iQ : ∀ k, (∀ y0 y1 y2 y3, LeO (iy.l0 k y0 y1 y2 y3) (iy.l0 (k + 1) y0 y1 y2 y3))
  | 0 => fun _ _ _ _ r h => by simp [iy.l0] at h
  | k + 1 => by
    have br := iy.iQ k
    · intro y0 y1 y2 y3
      unfold iy.l0
      repeat' (with_reducible first | exact br _ _ _ _ | exact LeO.refl _ | exact LeO.none _ | refine LeO.ite ?_ ?_ | refine LeO.bind ?_ (fun _ => ?_))
theorem iy.mono : ∀ a0 a1 k, LeO (iy.f k a0 a1) (iy.f (k + 1) a0 a1) := by
  intro a0 a1 k
  have br := iy.iQ k
  unfold iy.f
  repeat' (with_reducible first | exact br _ _ _ _ | exact LeO.refl _ | exact LeO.none _ | refine LeO.ite ?_ ?_ | refine LeO.bind ?_ (fun _ => ?_))
theorem iy.calls (k : Nat) (A0 : Option Addr) (c0 : Nat) (l0 : List (S38)) (A1 : Option Addr) (c1 : Nat) (l1 : List (S38)) (r : Bool) (w : World) (bs : Kd.C k38 w A0 l0.length l0) (hc0 : l0.length ≤ c0) (di : Kd.C k38 w A1 l1.length l1) (hc1 : l1.length ≤ c1) (h : iy.f k l0 l1 = some r) :
    Calls Tryz.prog 38 #[.slice A0 l0.length c0, .slice A1 l1.length c1] w fun e w' => e = .returned (.bool r) ∧ jP w w' := by
 have hu38 := Tryz.underlying38; have bA := a_ bs; have cy := a_ hc0; clear bs hc0; have dp := a_ di; have dr := a_ hc1; clear di hc1; have H : (if (l0.length : Int) = (l1.length : Int) then (iy.l0 k l0 l1 (l0.length : Int) 0) else (some false)) = some r := h; clear h; replace H := ie_ H; obtain ⟨aU, cb, cx, H⟩ | ⟨aU, cb, cx, H⟩ := H
 ·have cc : (l0.length == l1.length) = true := by first | simpa using cx | (simp at cx ⊢; omega)
  clear cx; have H' := a_ H; clear H; go_enter Tryz.func38, Tryz.ntmps38
  go_wp2
  repeat (go_quiet (fail); try go_wp2)
  go_loopg [13] k (fun kq dq w' => ∃ (ag : Int), dq = .int .i64 ag ∧ fD (iy.l0 kq l0 l1 (l0.length : Int) ag = some r) ∧ fD (kq ≤ k) ∧ jP w w')
  case atStart => exact ⟨(0), y3_, H', ⟨Nat.le_refl _⟩, y5_⟩
  case round =>
   clear H'; (try clear cx); (try clear aU); (try clear cb); (try clear cc); obtain ⟨ag, rfl, HA, HK1, ⟨m1, rfl⟩⟩ := hrel; cases gk with
   | zero => exact absurd HA.out (by simp [iy.l0])
   | succ k1 =>
    have H := HA.out; clear HA; simp only [iy.l0] at H; replace H := id_ H; obtain ⟨bt, -, H⟩ | ⟨bt, -, H⟩ := H; replace H := kd_ H; obtain ⟨b5, -, H⟩ := H; replace H := kd_ H; obtain ⟨bi, -, H⟩ := H; replace H := kd_ H; obtain ⟨aV, -, H⟩ := H; by_cases cE : (!((((iU l0 ag).f0).toList) == (((iU l1 ag).f0).toList)) || (!((((iU l0 ag).f1).toList) == (((iU l1 ag).f1).toList)))) = true; rw [if_pos cE] at H; have ca : (!((((iU l0 ag).f0).toList) == (((iU l1 ag).f0).toList)) || (!((((iU l0 ag).f1).toList) == (((iU l1 ag).f1).toList)))) = true := cE; clear cE; obtain rfl := Option.some.inj H; obtain ⟨c2, db⟩ := t2_; rotate_left; rw [if_neg cE] at H; have ca : (!((((iU l0 ag).f0).toList) == (((iU l1 ag).f0).toList)) || (!((((iU l0 ag).f1).toList) == (((iU l1 ag).f1).toList)))) = false := by simpa using cE
    clear cE; have H' := a_ H; clear H; obtain ⟨c2, dc⟩ := t2_; rotate_left
    obtain rfl := Option.some.inj H; have dd := t_; rotate_left
    all_goals (
     try(
       clear c2; have ae : 0 ≤ (ag : Int) := of_decide_eq_true y1_; have af : ag < (l0.length : Int) := of_decide_eq_true y1_; obtain ⟨am, aq, aj, ak⟩ := oW bA.out ag ae af; cases aq; replace ae := eq_true ae; replace af := eq_true af; have aQ : 0 ≤ (ag : Int) := of_decide_eq_true y1_; have aR : ag < (l1.length : Int) := of_decide_eq_true y1_; obtain ⟨cF, bz, cd, ce⟩ := oW dp.out ag aQ aR; cases bz; replace aQ := eq_true aQ; replace aR := eq_true aR; go_wp2
       repeat (go_quiet (fail); try go_wp2))
     try(
       clear db; go_ret
       exact ⟨y3_, y5_⟩)
     try(
       clear dc; go_roundg k1
       case measure => have := HK1.out; omega
       case rel => exact ⟨(wrap64 (ag + 1)), y3_, H', ⟨pq⟩, y5_⟩)
     try(
       clear dd; go_wp2
       repeat (go_quiet (fail); try go_wp2)
       go_ret
       exact ⟨y3_, y5_⟩))
 ·have cc : (l0.length == l1.length) = false := by first | simpa using cx | (simp at cx ⊢; omega)
  obtain rfl := Option.some.inj H; go_enter Tryz.func38, Tryz.ntmps38
  go_wp2
  repeat (go_quiet (fail); try go_wp2)
  go_ret
  exact ⟨y3_, y5_⟩

end Go.Proofs.YtbibioffldkanaaGreatDoor.K
-- Written by a program of this session's own (xp.py) for this seat.
namespace Go.Proofs.YtbibioffldkanaaGreatDoor.K
open Go.RowKit Go.Proofs.YtbibioffldkanaaGreatDoorW.PrintWords Go.Proofs.YtbibioffldkanaaGreatDoorW.PrintLast Go.Proofs.YtbibioffldkanaaGreatDoorW.PrintMore
attribute [local go_sem] Instr.field asAgg
attribute [local go_sem] lS lQ mY mX lm lq lT lU   -- for this text's walks alone
set_option maxHeartbeats 8000000
set_option maxRecDepth 100000
set_option linter.unusedVariables false
set_option linter.unusedSimpArgs false

/-! ### kL: function 37 -/
def kL.f (k : Nat) (aF : ByteArray) (aG : Int) (aj : List (S38)) (aM : ByteArray) (aN : Int) (aB : List (S38)) : Option (Bool) := if aF.toList = aM.toList then (if aG = aN then ((iy.f k aj aB).bind fun bC => (some bC)) else (some false)) else (some false)
theorem kL.mono : ∀ a0 a1 a2 a3 a4 a5 k, LeO (kL.f k a0 a1 a2 a3 a4 a5) (kL.f (k + 1) a0 a1 a2 a3 a4 a5) := by
  intro a0 a1 a2 a3 a4 a5 k
  unfold kL.f
  repeat' (with_reducible first | exact iy.mono _ _ _ | exact LeO.refl _ | exact LeO.none _ | refine LeO.ite ?_ ?_ | refine LeO.bind ?_ (fun _ => ?_))
theorem kL.calls (k : Nat) (aF : ByteArray) (aG : Int) (aO : Option Addr) (aP : Nat) (aj : List (S38)) (aM : ByteArray) (aN : Int) (bD : Option Addr) (bE : Nat) (aB : List (S38)) (r : Bool) (w : World) (bx : Kd.C k38 w aO aj.length aj) (hc0_2 : aj.length ≤ aP) (bz : Kd.C k38 w bD aB.length aB) (hc1_2 : aB.length ≤ bE) (h : kL.f k aF aG aj aM aN aB = some r) :
    Calls Tryz.prog 37 #[.agg #[.string aF, .int .i64 aG, .slice aO aj.length aP], .agg #[.string aM, .int .i64 aN, .slice bD aB.length bE]] w fun e w' => e = .returned (.bool r) ∧ Below w.heap.size w w' := by
 have hu33 := Tryz.underlying33; have bN := a_ bx; have bO := a_ hc0_2; clear bx hc0_2; have bP := a_ bz; have bQ := a_ hc1_2; clear bz hc1_2; have HB := a_ (Below.refl w.heap.size w); have H : (if aF.toList = aM.toList then (if aG = aN then ((iy.f k aj aB).bind fun bC => (some bC)) else (some false)) else (some false)) = some r := h; clear h; replace H := ie_ H; obtain ⟨aK, aL, -, H⟩ | ⟨aK, aL, bA, H⟩ := H; replace H := ie_ H; obtain ⟨aS, bR, -, H⟩ | ⟨aS, bR, ck, H⟩ := H; replace H := bd_ H; obtain ⟨cf, cg, H⟩ := H; obtain rfl := Option.some.inj H; rotate_left; obtain rfl := Option.some.inj H; rotate_left; obtain rfl := Option.some.inj H; rotate_left
 all_goals (
  go_enter Tryz.func37, Tryz.ntmps37
  go_wp2_with (first | ((with_reducible refine iW (N := 2) rfl ?_); refine jF zr_ (N := 2) zr_ (cs := #[.string aF, .int .i64 aG, .slice aO aj.length aP]) (t := 33) zs_ ?_; intro ae hg bS hbox hb; have n_ := s4_ (fZ y0_ hb) hbox ((by rw [hg]; exact (fV y0_) : w.heap.size ≤ ae)) ((by rw [hg]; exact (fV y0_) : w.heap.size ≤ ae)); clear HB; obtain ⟨HB, BK9167124, bJ, GE9167124⟩ := n_; clear hb hbox hg) | ((with_reducible refine iW (N := 3) rfl ?_); refine jF zr_ (N := 3) zr_ (cs := #[.string aM, .int .i64 aN, .slice bD aB.length bE]) (t := 33) zs_ ?_; intro ah hg bT hbox hb; have n_ := s7_ (gK (g := ae) (o := .cells #[.string aF, .int .i64 aG, .slice aO aj.length aP] 33 (0, 0)) IR hb) (fZ Iq hb) hbox ((by rw [hg]; exact (fV Iq) : w.heap.size ≤ ah)) ((by rw [hg]; exact (fV Iq) : w.heap.size ≤ ah)) ((by rw [hg]; exact Nat.ne_of_lt (kJ (g := ae) (o := .cells #[.string aF, .int .i64 aG, .slice aO aj.length aP] 33 (0, 0)) IR) : ae ≠ ah)) ((by rw [hg]; exact Nat.ne_of_gt (kJ (g := ae) (o := .cells #[.string aF, .int .i64 aG, .slice aO aj.length aP] 33 (0, 0)) IR) : ah ≠ ae)); clear BK9167124 HB; obtain ⟨BK9167124, HB, aQ, bK, aR, aC, aD⟩ := n_; clear hb hbox hg; have bF := aC.out; have bG := aD.out; obtain ⟨aX, aY, aZ, a6, a7, a8⟩ := mP BK9167124.out; obtain ⟨a9, ba, bb, bc, bd, be⟩ := mP aQ.out) | (go_at_call 38; (with_reducible refine (iy.calls k _ _ aj _ _ aB cf _ ?side1 ?side2 ?side3 ?side4 cg.out).mono ?_); (case side1 => repeat (first | exact (Kd.l9 bN.out HB.out) | (with_reducible refine Kd.jh ?_ _) | (with_reducible refine Kd.jk ?_ _) | (with_reducible refine Kd.jK ?_))); (case side2 => exact bO.out); (case side3 => repeat (first | exact (Kd.l9 bP.out HB.out) | (with_reducible refine Kd.jh ?_ _) | (with_reducible refine Kd.jk ?_ _) | (with_reducible refine Kd.jK ?_))); (case side4 => exact bQ.out); rintro e w' ⟨rfl, ⟨nd, rfl⟩⟩))
  go_ret
  exact ⟨y6_, by repeat (first | (with_reducible first | exact HB.out | apply gB | apply fU | apply gG | refine gX ?_ GE9167124.out | refine gX ?_ aR.out) | exact HB.out)⟩)

/-! ### fF: function 141 -/
def fF.l0 : Nat → List (S33) → List (S33) → Int → Int → Option (Bool)
  | 0, _, _, _, _ => none
  | k + 1, x1, bU, b9, aT => if aT < b9 then (if 0 ≤ aT then (if aT < (bU.length : Int) then (if aT < (x1.length : Int) then ((kL.f k ((fJ bU aT).f0) ((fJ bU aT).f1) ((fJ bU aT).f2) ((fJ x1 aT).f0) ((fJ x1 aT).f1) ((fJ x1 aT).f2)).bind fun b2 => (if b2 = true then (fF.l0 k x1 bU b9 (wrap64 (aT + 1))) else (some false))) else (none)) else (none)) else (none)) else (some true)
def fF.f (k : Nat) (l0 : List (S33)) (l1 : List (S33))  : Option (Bool) := if (l0.length : Int) = (l1.length : Int) then (fF.l0 k l1 l0 (l0.length : Int) 0) else (some false)
theorem fF.iQ : ∀ k, (∀ y0 y1 y2 y3, LeO (fF.l0 k y0 y1 y2 y3) (fF.l0 (k + 1) y0 y1 y2 y3))
  | 0 => fun _ _ _ _ r h => by simp [fF.l0] at h
  | k + 1 => by
    have b3 := fF.iQ k
    · intro y0 y1 y2 y3
      unfold fF.l0
      repeat' (with_reducible first | exact b3 _ _ _ _ | exact kL.mono _ _ _ _ _ _ _ | exact LeO.refl _ | exact LeO.none _ | refine LeO.ite ?_ ?_ | refine LeO.bind ?_ (fun _ => ?_))
theorem fF.mono : ∀ a0 a1 k, LeO (fF.f k a0 a1) (fF.f (k + 1) a0 a1) := by
  intro a0 a1 k
  have b3 := fF.iQ k
  unfold fF.f
  repeat' (with_reducible first | exact b3 _ _ _ _ | exact kL.mono _ _ _ _ _ _ _ | exact LeO.refl _ | exact LeO.none _ | refine LeO.ite ?_ ?_ | refine LeO.bind ?_ (fun _ => ?_))
theorem fF.calls (k : Nat) (A0 : Option Addr) (c0 : Nat) (l0 : List (S33)) (A1 : Option Addr) (c1 : Nat) (l1 : List (S33))  (r : Bool) (w : World) (bV : Kd.C k33 w A0 l0.length l0) (hc0 : l0.length ≤ c0) (bW : Kd.C k33 w A1 l1.length l1) (hc1 : l1.length ≤ c1) (h : fF.f k l0 l1 = some r) :
    Calls Tryz.prog 36 #[.slice A0 l0.length c0, .slice A1 l1.length c1, .func (.func 37) #[] #[]] w fun e w' => e = .returned (.bool r) ∧ Below w.heap.size w w' := by
 have hu33 := Tryz.underlying33; have b4 := a_ bV; have ca := a_ hc0; clear bV hc0; have b5 := a_ bW; have cb := a_ hc1; clear bW hc1; have HB := a_ (Below.refl w.heap.size w); have H : (if (l0.length : Int) = (l1.length : Int) then (fF.l0 k l1 l0 (l0.length : Int) 0) else (some false)) = some r := h; clear h; replace H := ie_ H; obtain ⟨aK, aL, bA, H⟩ | ⟨aK, aL, bA, H⟩ := H
 ·have bB : (l0.length == l1.length) = true := by first | simpa using bA | (simp at bA ⊢; omega)
  clear bA; have H' := a_ H; clear H; go_enter Tryz.func36, Tryz.ntmps36
  go_wp2
  go_loopg [17] k (fun kq ch w' => ∃ (x17_1 : Int), ch = .int .i64 x17_1 ∧ fD (fF.l0 kq l1 l0 (l0.length : Int) x17_1 = some r) ∧ fD (kq ≤ k) ∧ fD (Below w.heap.size w w'))
  case atStart => exact ⟨(0), y3_, H', ⟨Nat.le_refl _⟩, ⟨y0_⟩⟩
  case round =>
   clear H'; (try clear bA); (try clear aK); (try clear aL); (try clear bB); obtain ⟨x17_1, rfl, HA, HK1, HB⟩ := hrel; cases gk with
   | zero => exact absurd HA.out (by simp [fF.l0])
   | succ k1 =>
    have H := HA.out; clear HA; simp only [fF.l0] at H; replace H := id_ H; obtain ⟨aS, -, H⟩ | ⟨aS, -, H⟩ := H; replace H := kd_ H; obtain ⟨cc, -, H⟩ := H; replace H := kd_ H; obtain ⟨cd, -, H⟩ := H; replace H := kd_ H; obtain ⟨ce, -, H⟩ := H; replace H := bd_ H; obtain ⟨ci, cj, H⟩ := H; by_cases b1 : ci = true; subst b1; rw [if_pos rfl] at H; have H' := a_ H; clear H; obtain ⟨bX, b6⟩ := t2_; rotate_left; replace b1 := Bool.eq_false_iff.mpr b1; subst b1; rw [if_neg (show ¬ (false = true) by decide)] at H; obtain rfl := Option.some.inj H; obtain ⟨bX, b7⟩ := t2_; rotate_left
    obtain rfl := Option.some.inj H; have b8 := t_; rotate_left
    all_goals (
     try(
       clear bX; have av : 0 ≤ (x17_1 : Int) := of_decide_eq_true y1_; have aw : x17_1 < (l0.length : Int) := of_decide_eq_true y1_; obtain ⟨bL, A9922068_2, c9922068_2, aU, am, an, ao, ap, aq⟩ := nC b4.out x17_1 av aw; cases aU; replace am := cT_ HB.out am; replace an := cT_ HB.out an; replace ao := cT_ HB.out ao; have HR9922068_2 := a_ aq; have aH := a_ ap; clear aq ap; replace av := eq_true av; replace aw := eq_true aw
       go_wp2_with (first | ((with_reducible refine iW (N := 8) rfl ?_); refine jF zr_ (N := 8) zr_ (cs := #[.string (⟨#[]⟩ : ByteArray), .int .i64 0, .slice none 0 0]) (t := 33) zs_ ?_; intro aa hg bY hbox hb; have n_ := s4_ (fZ y0_ hb) hbox ((by rw [hg]; exact (fV y0_) : w.heap.size ≤ aa)) ((by rw [hg]; exact (fV y0_) : w.heap.size ≤ aa)); clear HB; obtain ⟨HB, BK9479672, ak, GE9479672⟩ := n_; clear hb hbox hg; obtain ⟨bf, bg, bh, bi, bj, bk⟩ := mP BK9479672.out; have ax : 0 ≤ (x17_1 : Int) := of_decide_eq_true y1_; have ay : x17_1 < (l1.length : Int) := of_decide_eq_true y1_; obtain ⟨al, az, aA, aV, ab, ac, ad, ar, au⟩ := nC b5.out x17_1 ax ay; cases aV; have hn9948501_0 : al.block ≠ aa := Nat.ne_of_lt (Nat.lt_of_lt_of_le (by have := World.block_lt_of_cell? _ _ ab; first | rwa [add_block] at this | exact this) ak.out); have hn9948501_1 : al.block ≠ aa := Nat.ne_of_lt (Nat.lt_of_lt_of_le (by have := World.block_lt_of_cell? _ _ ab; first | rwa [add_block] at this | exact this) ak.out); have hn9948501_2 : al.block ≠ aa := Nat.ne_of_lt (Nat.lt_of_lt_of_le (by have := World.block_lt_of_cell? _ _ ab; first | rwa [add_block] at this | exact this) ak.out); replace ab := cT_ HB.out ab; replace ac := cT_ HB.out ac; replace ad := cT_ HB.out ad; have aI := a_ au; have aJ := a_ ar; clear au ar; replace ab := (cell_far (p := ⟨aa, 0, none⟩) H8 (.string ((fJ l0 x17_1).f0))).trans ab; replace ac := (cell_far (p := ⟨aa, 0, none⟩) H8 (.string ((fJ l0 x17_1).f0))).trans ac; replace ad := (cell_far (p := ⟨aa, 0, none⟩) H8 (.string ((fJ l0 x17_1).f0))).trans ad; replace ab := (cell_far (p := ⟨aa, 1, none⟩) IX (.int .i64 ((fJ l0 x17_1).f1))).trans ab; replace ac := (cell_far (p := ⟨aa, 1, none⟩) IX (.int .i64 ((fJ l0 x17_1).f1))).trans ac; replace ad := (cell_far (p := ⟨aa, 1, none⟩) IX (.int .i64 ((fJ l0 x17_1).f1))).trans ad; replace ab := (cell_far (p := ⟨aa, 2, none⟩) Ii (.slice A9922068_2 ((fJ l0 x17_1).f2).length c9922068_2)).trans ab; replace ac := (cell_far (p := ⟨aa, 2, none⟩) Ii (.slice A9922068_2 ((fJ l0 x17_1).f2).length c9922068_2)).trans ac; replace ad := (cell_far (p := ⟨aa, 2, none⟩) Ii (.slice A9922068_2 ((fJ l0 x17_1).f2).length c9922068_2)).trans ad; clear hn9948501_0; clear hn9948501_1; clear hn9948501_2; replace ax := eq_true ax; replace ay := eq_true ay) | ((with_reducible refine iW (N := 9) rfl ?_); refine jF zr_ (N := 9) zr_ (cs := #[.string (⟨#[]⟩ : ByteArray), .int .i64 0, .slice none 0 0]) (t := 33) zs_ ?_; intro ag hg bZ hbox hb; have n_ := s7_ (gK (g := aa) (o := .cells #[.string ((fJ l0 x17_1).f0), .int .i64 ((fJ l0 x17_1).f1), .slice A9922068_2 ((fJ l0 x17_1).f2).length c9922068_2] 33 (0, 0)) Lc hb) (fZ IJ hb) hbox ((by rw [hg]; exact (fV IJ) : w.heap.size ≤ ag)) ((by rw [hg]; exact (fV IJ) : w.heap.size ≤ ag)) ((by rw [hg]; exact Nat.ne_of_lt (kJ (g := aa) (o := .cells #[.string ((fJ l0 x17_1).f0), .int .i64 ((fJ l0 x17_1).f1), .slice A9922068_2 ((fJ l0 x17_1).f2).length c9922068_2] 33 (0, 0)) Lc) : aa ≠ ag)) ((by rw [hg]; exact Nat.ne_of_gt (kJ (g := aa) (o := .cells #[.string ((fJ l0 x17_1).f0), .int .i64 ((fJ l0 x17_1).f1), .slice A9922068_2 ((fJ l0 x17_1).f2).length c9922068_2] 33 (0, 0)) Lc) : ag ≠ aa)); clear BK9479672 HB; obtain ⟨BK9479672, HB, ai, bM, GE9484629, af, aE⟩ := n_; clear hb hbox hg; have bH := aE.out; have bI := af.out; obtain ⟨bl, bm, bn, bo, bp, bq⟩ := mP ai.out; obtain ⟨br, bs, bt, bu, bv, bw⟩ := mP BK9479672.out) | ((with_reducible refine uM (t := 26) rfl ?_); refine Bh (some 29) rfl rfl Tryz.func37 iY rfl #[.agg #[.string ((fJ l0 x17_1).f0), .int .i64 ((fJ l0 x17_1).f1), .slice A9922068_2 ((fJ l0 x17_1).f2).length c9922068_2], .agg #[.string ((fJ l1 x17_1).f0), .int .i64 ((fJ l1 x17_1).f1), .slice az ((fJ l1 x17_1).f2).length aA]] rfl Jh ?_; (with_reducible refine (kL.calls k1 ((fJ l0 x17_1).f0) ((fJ l0 x17_1).f1) _ _ ((fJ l0 x17_1).f2) ((fJ l1 x17_1).f0) ((fJ l1 x17_1).f1) _ _ ((fJ l1 x17_1).f2) _ _ ?side1 ?side2 ?side3 ?side4 cj.out).mono ?_); (case side1 => exact Kd.l9 HR9922068_2.out IV); (case side2 => exact aH.out); (case side3 => exact Kd.l9 aI.out IV); (case side4 => exact aJ.out); rintro e b0 ⟨rfl, hb⟩; refine ⟨_, rfl, ?_⟩; have n_ := s3_ (gK (g := aa) (o := .cells #[.string ((fJ l0 x17_1).f0), .int .i64 ((fJ l0 x17_1).f1), .slice A9922068_2 ((fJ l0 x17_1).f2).length c9922068_2] 33 (0, 0)) (by (with_reducible repeat (first | refine fC ?_ _ | refine fH ?_ | refine fE ?_ _)); refine jJ ?_ af.out _; (with_reducible repeat (first | refine fC ?_ _ | refine fH ?_ | refine fE ?_ _)); refine jJ ?_ af.out _; (with_reducible repeat (first | refine fC ?_ _ | refine fH ?_ | refine fE ?_ _)); refine jJ ?_ af.out _; (with_reducible repeat (first | refine fC ?_ _ | refine fH ?_ | refine fE ?_ _)); exact BK9479672.out) hb) (gK (g := ag) (o := .cells #[.string ((fJ l1 x17_1).f0), .int .i64 ((fJ l1 x17_1).f1), .slice az ((fJ l1 x17_1).f2).length aA] 33 (0, 0)) (by (with_reducible repeat (first | refine fC ?_ _ | refine fH ?_ | refine fE ?_ _)); refine iJ (cs := #[.string ((fJ l1 x17_1).f0), .int .i64 ((fJ l1 x17_1).f1), .slice none 0 0]) ?_ 2 _ rfl; (with_reducible repeat (first | refine fC ?_ _ | refine fH ?_ | refine fE ?_ _)); refine iJ (cs := #[.string ((fJ l1 x17_1).f0), .int .i64 0, .slice none 0 0]) ?_ 1 _ rfl; (with_reducible repeat (first | refine fC ?_ _ | refine fH ?_ | refine fE ?_ _)); refine iJ (cs := #[.string (⟨#[]⟩ : ByteArray), .int .i64 0, .slice none 0 0]) ?_ 0 _ rfl; (with_reducible repeat (first | refine fC ?_ _ | refine fH ?_ | refine fE ?_ _)); exact ai.out) hb) (fZ IV hb); clear BK9479672 ai HB; obtain ⟨BK9479672, ai, HB⟩ := n_; (try clear hb); (try clear hb9262673); (try clear hk); (try clear hi))))
     try(
       clear b6; go_roundg k1
       case measure => have := HK1.out; omega
       case rel => exact ⟨(wrap64 (x17_1 + 1)), y3_, H', ⟨pq⟩, ⟨IV⟩⟩)
     try(
       clear b7; go_ret
       exact ⟨y6_, IV⟩)
     try(
       clear b8; go_wp2
       go_ret
       exact ⟨y6_, y0_⟩))
 ·have bB : (l0.length == l1.length) = false := by first | simpa using bA | (simp at bA ⊢; omega)
  obtain rfl := Option.some.inj H; go_enter Tryz.func36, Tryz.ntmps36
  go_wp2
  go_ret
  exact ⟨y6_, y0_⟩

/-! ### ku: function 13 -/
def ku.f (k : Nat) (l0 : List (S33)) (l1 : List (S33)) : Option (Bool) := (fF.f k l0 l1).bind fun aW => (some aW)
theorem ku.mono : ∀ a0 a1 k, LeO (ku.f k a0 a1) (ku.f (k + 1) a0 a1) := by
  intro a0 a1 k
  unfold ku.f
  repeat' (with_reducible first | exact fF.mono _ _ _ | exact LeO.refl _ | exact LeO.none _ | refine LeO.ite ?_ ?_ | refine LeO.bind ?_ (fun _ => ?_))
theorem ku.calls (k : Nat) (A0 : Option Addr) (c0 : Nat) (l0 : List (S33)) (A1 : Option Addr) (c1 : Nat) (l1 : List (S33)) (r : Bool) (w : World) (bV : Kd.C k33 w A0 l0.length l0) (hc0 : l0.length ≤ c0) (bW : Kd.C k33 w A1 l1.length l1) (hc1 : l1.length ≤ c1) (h : ku.f k l0 l1 = some r) :
    Calls Tryz.prog 13 #[.slice A0 l0.length c0, .slice A1 l1.length c1] w fun e w' => e = .returned (.bool r) ∧ Below w.heap.size w w' := by
 have b4 := a_ bV; have ca := a_ hc0; clear bV hc0; have b5 := a_ bW; have cb := a_ hc1; clear bW hc1; have HB := a_ (Below.refl w.heap.size w); have H : ((fF.f k l0 l1).bind fun aW => (some aW)) = some r := h; clear h; replace H := bd_ H; obtain ⟨aW, A3, H⟩ := H; obtain rfl := Option.some.inj H; go_enter Tryz.func13, Tryz.ntmps13
 go_wp2_with (first | ((with_reducible refine gm (f := 36) rfl ?_); refine gc_ 36 7 Tryz.func36 #[.slice A0 l0.length c0, .slice A1 l1.length c1, .func (.func 37) #[] #[]] ?_; (with_reducible refine (fF.calls k _ _ l0 _ _ l1  aW _ ?side1 ?side2 ?side3 ?side4 A3.out).mono ?_); (case side1 => repeat (first | exact b4.out | (with_reducible refine Kd.jh ?_ _) | (with_reducible refine Kd.jk ?_ _) | (with_reducible refine Kd.jK ?_))); (case side2 => exact ca.out); (case side3 => repeat (first | exact b5.out | (with_reducible refine Kd.jh ?_ _) | (with_reducible refine Kd.jk ?_ _) | (with_reducible refine Kd.jK ?_))); (case side4 => exact cb.out); rintro e w4 ⟨rfl, hb⟩; refine ⟨_, rfl, ?_⟩; have n0_ := a_ (fZ y0_ hb); clear HB; have HB := n0_; clear n0_; (try clear hb); (try clear hb2); (try clear hk); (try clear hi)))
 go_ret
 exact ⟨y6_, y0_⟩

end Go.Proofs.YtbibioffldkanaaGreatDoor.K
