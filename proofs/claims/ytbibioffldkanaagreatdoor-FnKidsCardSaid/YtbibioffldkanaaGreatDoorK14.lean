-- Written by a program of this session's own (xp.py) for this seat.
import Derived.Test.YtbibioffldkanaaGreatDoorKH
import Derived.Test.YtbibioffldkanaaGreatDoorK5
namespace Go.Proofs.YtbibioffldkanaaGreatDoor.K
open Go.RowKit Go.Proofs.YtbibioffldkanaaGreatDoorW.PrintWords Go.Proofs.YtbibioffldkanaaGreatDoorW.PrintLast Go.Proofs.YtbibioffldkanaaGreatDoorW.PrintMore
attribute [local go_sem] Instr.field asAgg
attribute [local go_sem] lS lQ mY mX lm lq lT lU   -- for this text's walks alone
set_option maxHeartbeats 8000000
set_option maxRecDepth 100000
set_option linter.unusedVariables false
set_option linter.unusedSimpArgs false

-- NOT PRINTED: function 40 (impl_areAll)

-- NOT PRINTED: function 68 (slices_IndexFunc_Attr_Attr)

-- NOT PRINTED: function 58 (slices_ContainsFunc_Attr_Attr)

-- NOT PRINTED: function 59 (oC)

/-! ### jf: function 52 -/
def jf.l0 : Nat → List (S33) → Int → List Int → Int → Option (List Int)
  | 0, _, _, _, _ => none
  | k + 1, x0, x1, x5, x6 => if x6 < (x0.length : Int) then (if 0 ≤ x6 then (if ((fJ x0 x6).f1) = x1 then (if x5.length < 17592186044416 then (jf.l0 k x0 x1 (x5 ++ [x6]) (wrap64 (x6 + 1))) else (none)) else (jf.l0 k x0 x1 x5 (wrap64 (x6 + 1)))) else (none)) else (some x5)
def jf.f (k : Nat) (l0 : List (S33)) (a1 : Int) : Option (List Int) := jf.l0 k l0 a1 (([] : List Int)) 0
theorem jf.iQ : ∀ k, (∀ y0 y1 y2 y3, LeO (jf.l0 k y0 y1 y2 y3) (jf.l0 (k + 1) y0 y1 y2 y3))
  | 0 => fun _ _ _ _ r h => by simp [jf.l0] at h
  | k + 1 => by
    have aI := jf.iQ k
    · intro y0 y1 y2 y3
      unfold jf.l0
      repeat' (with_reducible first | exact aI _ _ _ _ | exact LeO.refl _ | exact LeO.none _ | refine LeO.ite ?_ ?_ | refine LeO.bind ?_ (fun _ => ?_))
theorem jf.mono : ∀ a0 a1 k, LeO (jf.f k a0 a1) (jf.f (k + 1) a0 a1) := by
  intro a0 a1 k
  have aI := jf.iQ k
  unfold jf.f
  repeat' (with_reducible first | exact aI _ _ _ _ | exact LeO.refl _ | exact LeO.none _ | refine LeO.ite ?_ ?_ | refine LeO.bind ?_ (fun _ => ?_))
theorem jf.calls (k : Nat) (A0 : Option Addr) (c0 : Nat) (l0 : List (S33)) (a1 : Int) (r : List Int) (w : World) (bC : Kd.C k33 w A0 l0.length l0) (hc0 : l0.length ≤ c0) (h : jf.f k l0 a1 = some r) :
    Calls Tryz.prog 52 #[.slice A0 l0.length c0, .int .i64 a1] w fun e w' => ∃ v0_ : Value, e = .returned (v0_) ∧ Kd.R (Kd.int .i64) 2 w' w.heap.size (fun _ => True) v0_ r ∧ Below w.heap.size w w' := by
 have bp := a_ bC; have bX := a_ hc0; clear bC hc0; have HB := a_ (Below.refl w.heap.size w); have H : (jf.l0 k l0 a1 (([] : List Int)) 0) = some r := h; clear h; obtain ⟨b2, hy_⟩ : ∃ y_ : List Int, y_ = (([] : List Int)) := ⟨_, rfl⟩; replace H : (jf.l0 k l0 a1 b2 0) = some r := z0_; have bH := a_ hy_; clear hy_; have H' := a_ H; clear H; go_enter Tryz.func52, Tryz.ntmps52
 go_wp2_with (first | ((with_reducible refine iW (N := 7) rfl ?_); refine Kd.oP (Kd.int .i64) _ 2 ?hg (N := 7) ?hd (xs := ([] : List Int)) (inner := []) (ok := fun _ => True) (okp := fun _ => True) ?hr ?hp (fun _ hk => hk) trivial (Below.refl _ _) (Nat.le_refl _) lI ?_; (case hd => rfl); (case hg => rfl); (case hr => first | (go_simp; done) | (go_simp; rfl)); (case hp => exact (iV.none _ _)); intro di w3 b3 hb hg_ hnew_; clear hg_ hnew_; (first | rw [← bH.out] at b3 | (simp only [Int.reduceToNat] at b3; rw [← bH.out] at b3)); have n_ := s2_ (Kd.jQ b3 (fV y0_)) (fZ y0_ hb); clear HB; obtain ⟨b4, HB⟩ := n_; clear hb b3))
 go_loopg [5, 6] k (fun kq v5 v6 w' => ∃ (bh : List Int) (aa : Int), v6 = .int .i64 aa ∧ fD (jf.l0 kq l0 a1 bh aa = some r) ∧ fD (kq ≤ k) ∧ fD (Kd.R (Kd.int .i64) 2 w' w.heap.size (fun _ => True) v5 bh) ∧ fD (Below w.heap.size w w'))
 case atStart => exact ⟨(b2), (0), y3_, H', ⟨Nat.le_refl _⟩, ⟨by (with_reducible repeat (first | apply Kd.iq | apply Kd.gY | apply Kd.iE)); exact b4.out⟩, ⟨y0_⟩⟩
 case round =>
  clear H'; obtain ⟨bh, aa, rfl, HA, HK1, HO_5, HB⟩ := hrel; cases gk with
  | zero => exact absurd HA.out (by simp [jf.l0])
  | succ k1 =>
   have H := HA.out; clear HA; simp only [jf.l0] at H; replace H := id_ H; obtain ⟨ap, -, H⟩ | ⟨ap, -, H⟩ := H; replace H := kd_ H; obtain ⟨aw, -, H⟩ := H; replace H := ie_ H; obtain ⟨aJ, aK, -, H⟩ | ⟨aJ, aK, cD, H⟩ := H; replace H := kl_ H; obtain ⟨b5, H⟩ := H; obtain ⟨b6, hy_⟩ : ∃ y_ : List Int, y_ = (bh ++ [aa]) := ⟨_, rfl⟩; replace H : (jf.l0 k1 l0 a1 b6 (wrap64 (aa + 1))) = some r := z0_; have b7 := a_ hy_; clear hy_; have H' := a_ H; clear H; obtain ⟨av, aR⟩ := t2_; rotate_left
   have H' := a_ H; clear H; obtain ⟨av, aZ⟩ := t2_; rotate_left
   obtain rfl := Option.some.inj H; have a2 := t_; rotate_left
   all_goals (
    try(clear av; have ab : 0 ≤ (aa : Int) := of_decide_eq_true y1_; have ac : aa < (l0.length : Int) := of_decide_eq_true y1_; obtain ⟨al, A9922068_2, c9922068_2, aq, ad, ae, af, ag, ah⟩ := nC bp.out aa ab ac; cases aq; replace ad := cT_ HB.out ad; replace ae := cT_ HB.out ae; replace af := cT_ HB.out af; have HR9922068_2 := a_ ah; have az := a_ ag; clear ah ag; replace ab := eq_true ab; replace ac := eq_true ac)
    try(
      clear aR; go_wp2_with (first | ((with_reducible refine ni (b := .append) (xs := #[.tmp 21, .tmp 23]) rfl ?_); at_builtin; refine Kd.pY (Kd.int .i64) (w0 := w) w.heap.size rfl (.tmp 21) (.tmp 23) 27 2 (.int .i64 0) 8 rfl Tryz.underlying27 vV rfl iO jv u5 bh aa [.int .i64 aa] (fun _ => True) (fun _ => False) rfl rfl ?aP (fun _ hk => hk.elim) ?aF ?aO ?aB ?aS ?aL ?_; (case aP => exact rfl); (case aB => exact y0_); (case aF => exact (fun _ _ => trivial)); (case aO => exact Ic); (case aS => exact (fV y0_)); (case aL => have := b5.out; omega); intro b8 b9 ho hb hg hat; rw [← b7.out] at ho; have n_ := s2_ hb ho; clear HB HO_5; obtain ⟨HB, bi⟩ := n_; clear ho hb hg hat))
      go_roundg k1
      case measure => have := HK1.out; omega
      case rel => exact ⟨(b6), (wrap64 (aa + 1)), y3_, H', ⟨pq⟩, ⟨by (with_reducible repeat (first | apply Kd.iq | apply Kd.gY | apply Kd.iE)); exact bi.out⟩, ⟨y0_⟩⟩)
    try(
      clear aZ; go_wp2
      go_roundg k1
      case measure => have := HK1.out; omega
      case rel => exact ⟨(bh), (wrap64 (aa + 1)), y3_, H', ⟨pq⟩, ⟨Ic⟩, ⟨y0_⟩⟩)
    try(
      clear a2; go_wp2
      go_ret
      exact ⟨_, y6_, Ic, y0_⟩))

/-! ### iZ: function 64 -/
def iZ.l0 : Nat → ByteArray → ByteArray → Int → Option (ByteArray)
  | 0, _, _, _ => none
  | k + 1, x0, x3, x4 => if x4 < (x0.size : Int) then (if 0 ≤ x4 then (if (bt x0 x4) = 60 then (if x3.size + 4 ≤ 9223372036854775807 then (iZ.l0 k x0 (x3 ++ (⟨#[38, 108, 116, 59]⟩ : ByteArray)) (wrap64 (x4 + 1))) else (none)) else (if (bt x0 x4) = 62 then (if x3.size + 4 ≤ 9223372036854775807 then (iZ.l0 k x0 (x3 ++ (⟨#[38, 103, 116, 59]⟩ : ByteArray)) (wrap64 (x4 + 1))) else (none)) else (if (bt x0 x4) = 38 then (if x3.size + 5 ≤ 9223372036854775807 then (iZ.l0 k x0 (x3 ++ (⟨#[38, 97, 109, 112, 59]⟩ : ByteArray)) (wrap64 (x4 + 1))) else (none)) else (if (bt x0 x4) = 34 then (if x3.size + 6 ≤ 9223372036854775807 then (iZ.l0 k x0 (x3 ++ (⟨#[38, 113, 117, 111, 116, 59]⟩ : ByteArray)) (wrap64 (x4 + 1))) else (none)) else (if x4 ≤ (wrap64 (x4 + 1)) then (if (wrap64 (x4 + 1)) ≤ (x0.size : Int) then (if x3.size + (x0.extract (x4 : Int).toNat ((wrap64 (x4 + 1)) : Int).toNat).size ≤ 9223372036854775807 then (iZ.l0 k x0 (x3 ++ (x0.extract (x4 : Int).toNat ((wrap64 (x4 + 1)) : Int).toNat)) (wrap64 (x4 + 1))) else (none)) else (none)) else (none)))))) else (none)) else (some x3)
def iZ.f (k : Nat) (a0 : ByteArray) : Option (ByteArray) := iZ.l0 k a0 (⟨#[]⟩ : ByteArray) 0
theorem iZ.iQ : ∀ k, (∀ y0 y1 y2, LeO (iZ.l0 k y0 y1 y2) (iZ.l0 (k + 1) y0 y1 y2))
  | 0 => fun _ _ _ r h => by simp [iZ.l0] at h
  | k + 1 => by
    have aI := iZ.iQ k
    · intro y0 y1 y2
      unfold iZ.l0
      repeat' (with_reducible first | exact aI _ _ _ | exact LeO.refl _ | exact LeO.none _ | refine LeO.ite ?_ ?_ | refine LeO.bind ?_ (fun _ => ?_))
theorem iZ.mono : ∀ a0 k, LeO (iZ.f k a0) (iZ.f (k + 1) a0) := by
  intro a0 k
  have aI := iZ.iQ k
  unfold iZ.f
  repeat' (with_reducible first | exact aI _ _ _ | exact LeO.refl _ | exact LeO.none _ | refine LeO.ite ?_ ?_ | refine LeO.bind ?_ (fun _ => ?_))
theorem iZ.calls (k : Nat) (a0 : ByteArray) (r : ByteArray) (w : World) (h : iZ.f k a0 = some r) :
    Calls Tryz.prog 64 #[.string a0] w fun e w' => e = .returned (.string r) ∧ jP w w' := by
 have H : (iZ.l0 k a0 (⟨#[]⟩ : ByteArray) 0) = some r := h; clear h; have H' := a_ H; clear H; go_enter Tryz.func64, Tryz.ntmps64
 go_wp2
 go_loopg [3, 4] k (fun kq v3 v4 w' => ∃ (ax : ByteArray) (ao : Int), v3 = .string ax ∧ v4 = .int .i64 ao ∧ fD (iZ.l0 kq a0 ax ao = some r) ∧ fD (kq ≤ k) ∧ jP w w')
 case atStart => exact ⟨((⟨#[]⟩ : ByteArray)), (0), y3_, y3_, H', ⟨Nat.le_refl _⟩, y5_⟩
 case round =>
  clear H'; obtain ⟨ax, ao, rfl, rfl, HA, HK1, ⟨m1, rfl⟩⟩ := hrel; cases gk with
  | zero => exact absurd HA.out (by simp [iZ.l0])
  | succ k1 =>
   have H := HA.out; clear HA; simp only [iZ.l0] at H; replace H := id_ H; obtain ⟨ap, -, H⟩ | ⟨ap, -, H⟩ := H; replace H := kd_ H; obtain ⟨aw, -, H⟩ := H; replace H := ie_ H; obtain ⟨aJ, aK, -, H⟩ | ⟨aJ, aK, cD, H⟩ := H; replace H := kq_ H; obtain ⟨br, bI, bq, H⟩ := H; try have db : (9223372036854775807 < ax.size + 4) = False := eq_false (Nat.not_lt.2 bq)
   have H' := a_ H; clear H; obtain ⟨av, aR⟩ := t2_; rotate_left
   replace H := ie_ H; obtain ⟨br, bI, -, H⟩ | ⟨br, bI, bq, H⟩ := H; replace H := kq_ H; obtain ⟨aA, aM, ca, H⟩ := H; try have bJ : (9223372036854775807 < ax.size + 4) = False := eq_false (Nat.not_lt.2 ca)
   have H' := a_ H; clear H; obtain ⟨av, aZ⟩ := t2_; rotate_left
   replace H := ie_ H; obtain ⟨aA, aM, -, H⟩ | ⟨aA, aM, ca, H⟩ := H; replace H := kq_ H; obtain ⟨aT, bK, dc, H⟩ := H; try have dd : (9223372036854775807 < ax.size + 5) = False := eq_false (Nat.not_lt.2 dc)
   have H' := a_ H; clear H; obtain ⟨av, a2⟩ := t2_; rotate_left
   replace H := ie_ H; obtain ⟨aT, bK, -, H⟩ | ⟨aT, bK, dc, H⟩ := H; replace H := kq_ H; obtain ⟨a5, bs, bY, H⟩ := H; try have bL : (9223372036854775807 < ax.size + 6) = False := eq_false (Nat.not_lt.2 bY)
   have H' := a_ H; clear H; obtain ⟨av, cb⟩ := t2_; rotate_left
   have de := eq_true (of_decide_eq_true y1_ : 0 ≤ ao); replace H := kq_ H; obtain ⟨a5, bs, bY, H⟩ := H; replace H := kq_ H; obtain ⟨a6, bM, df, H⟩ := H; replace H := kq_ H; obtain ⟨a3, a7, bu, H⟩ := H; try have a8 : (9223372036854775807 < ax.size + (a0.extract (ao : Int).toNat ((wrap64 (ao + 1)) : Int).toNat).size) = False := eq_false (Nat.not_lt.2 bu)
   try have cc : (9223372036854775807 < ax.size + ((((wrap64 (ao + 1)) : Int).toNat - (ao : Int).toNat))) = False := eq_false (Nat.not_lt.2 (by have h_ := bu; (try simp only [ByteArray.size_append, ByteArray.size_extract] at h_);  omega))
   have H' := a_ H; clear H; obtain ⟨av, cd⟩ := t2_; rotate_left
   obtain rfl := Option.some.inj H; have cI := t_; rotate_left
   all_goals (
    try(
      clear av; have ab : 0 ≤ (ao : Int) := of_decide_eq_true y1_; have ac : ao < (a0.size : Int) := of_decide_eq_true y1_; have aU := lL a0 ao; replace ab := eq_true ab; replace ac := eq_true ac; go_wp2
      go_roundg k1
      case measure => have := HK1.out; omega)
    first
    | fail_if_success clear aR
    |(clear aR
      case rel => exact ⟨(ax ++ (⟨#[38, 108, 116, 59]⟩ : ByteArray)), (wrap64 (ao + 1)), y3_, y3_, H', ⟨pq⟩, y5_⟩)
    first
    | fail_if_success clear aZ
    |(clear aZ
      case rel => exact ⟨(ax ++ (⟨#[38, 103, 116, 59]⟩ : ByteArray)), (wrap64 (ao + 1)), y3_, y3_, H', ⟨pq⟩, y5_⟩)
    first
    | fail_if_success clear a2
    |(clear a2
      case rel => exact ⟨(ax ++ (⟨#[38, 97, 109, 112, 59]⟩ : ByteArray)), (wrap64 (ao + 1)), y3_, y3_, H', ⟨pq⟩, y5_⟩)
    first
    | fail_if_success clear cb
    |(clear cb
      case rel => exact ⟨(ax ++ (⟨#[38, 113, 117, 111, 116, 59]⟩ : ByteArray)), (wrap64 (ao + 1)), y3_, y3_, H', ⟨pq⟩, y5_⟩)
    first
    | fail_if_success clear cd
    |(clear cd
      case rel => exact ⟨(ax ++ (a0.extract (ao : Int).toNat ((wrap64 (ao + 1)) : Int).toNat)), (wrap64 (ao + 1)), y3_, y3_, H', ⟨pq⟩, y5_⟩)
    try(
      clear cI; go_wp2
      go_ret
      exact ⟨y3_, y5_⟩))

/-! ### jC: function 51 -/
def jC.l0 : Nat → List (S33) → Int → ByteArray → Int → Option (ByteArray)
  | 0, _, _, _, _ => none
  | k + 1, x0, x1, x6, x7 => if 0 ≤ x1 then (if x1 < (x0.length : Int) then (if x7 < (((fJ x0 x1).f2).length : Int) then (if x6.size + 1 ≤ 9223372036854775807 then (if 0 ≤ x7 then (if (x6 ++ (⟨#[32]⟩ : ByteArray)).size + ((iU ((fJ x0 x1).f2) x7).f0).size ≤ 9223372036854775807 then (if ((x6 ++ (⟨#[32]⟩ : ByteArray)) ++ ((iU ((fJ x0 x1).f2) x7).f0)).size + 2 ≤ 9223372036854775807 then ((iZ.f k ((iU ((fJ x0 x1).f2) x7).f1)).bind fun bQ => (if (((x6 ++ (⟨#[32]⟩ : ByteArray)) ++ ((iU ((fJ x0 x1).f2) x7).f0)) ++ (⟨#[61, 34]⟩ : ByteArray)).size + bQ.size ≤ 9223372036854775807 then (if ((((x6 ++ (⟨#[32]⟩ : ByteArray)) ++ ((iU ((fJ x0 x1).f2) x7).f0)) ++ (⟨#[61, 34]⟩ : ByteArray)) ++ bQ).size + 1 ≤ 9223372036854775807 then (jC.l0 k x0 x1 (((((x6 ++ (⟨#[32]⟩ : ByteArray)) ++ ((iU ((fJ x0 x1).f2) x7).f0)) ++ (⟨#[61, 34]⟩ : ByteArray)) ++ bQ) ++ (⟨#[34]⟩ : ByteArray)) (wrap64 (x7 + 1))) else (none)) else (none))) else (none)) else (none)) else (none)) else (none)) else ((jf.f k x0 x1).bind fun cJ => (if (cJ.length : Int) = 0 then (if x6.size + 2 ≤ 9223372036854775807 then (some (x6 ++ (⟨#[47, 62]⟩ : ByteArray))) else (none)) else (if x6.size + 1 ≤ 9223372036854775807 then (some (x6 ++ (⟨#[62]⟩ : ByteArray))) else (none))))) else (none)) else (none)
def jC.f (k : Nat) (l0 : List (S33)) (a1 : Int) : Option (ByteArray) := if 0 ≤ a1 then (if a1 < (l0.length : Int) then (if 1 + ((fJ l0 a1).f0).size ≤ 9223372036854775807 then (jC.l0 k l0 a1 ((⟨#[60]⟩ : ByteArray) ++ ((fJ l0 a1).f0)) 0) else (none)) else (none)) else (none)
theorem jC.iQ : ∀ k, (∀ y0 y1 y2 y3, LeO (jC.l0 k y0 y1 y2 y3) (jC.l0 (k + 1) y0 y1 y2 y3))
  | 0 => fun _ _ _ _ r h => by simp [jC.l0] at h
  | k + 1 => by
    have aI := jC.iQ k
    · intro y0 y1 y2 y3
      unfold jC.l0
      repeat' (with_reducible first | exact aI _ _ _ _ | exact iZ.mono _ _ | exact jf.mono _ _ _ | exact LeO.refl _ | exact LeO.none _ | refine LeO.ite ?_ ?_ | refine LeO.bind ?_ (fun _ => ?_))
theorem jC.mono : ∀ a0 a1 k, LeO (jC.f k a0 a1) (jC.f (k + 1) a0 a1) := by
  intro a0 a1 k
  have aI := jC.iQ k
  unfold jC.f
  repeat' (with_reducible first | exact aI _ _ _ _ | exact iZ.mono _ _ | exact jf.mono _ _ _ | exact LeO.refl _ | exact LeO.none _ | refine LeO.ite ?_ ?_ | refine LeO.bind ?_ (fun _ => ?_))
theorem jC.calls (k : Nat) (A0 : Option Addr) (c0 : Nat) (l0 : List (S33)) (a1 : Int) (r : ByteArray) (w : World) (bC : Kd.C k33 w A0 l0.length l0) (hc0 : l0.length ≤ c0) (h : jC.f k l0 a1 = some r) :
    Calls Tryz.prog 51 #[.slice A0 l0.length c0, .int .i64 a1] w fun e w' => e = .returned (.string r) ∧ Below w.heap.size w w' := by
 have bp := a_ bC; have bX := a_ hc0; clear bC hc0; have HB := a_ (Below.refl w.heap.size w); have H : (if 0 ≤ a1 then (if a1 < (l0.length : Int) then (if 1 + ((fJ l0 a1).f0).size ≤ 9223372036854775807 then (jC.l0 k l0 a1 ((⟨#[60]⟩ : ByteArray) ++ ((fJ l0 a1).f0)) 0) else (none)) else (none)) else (none)) = some r := h; clear h; replace H := kd_ H; obtain ⟨ap, -, H⟩ := H
 ·replace H := kd_ H; obtain ⟨aw, -, H⟩ := H
  ·replace H := kq_ H; obtain ⟨aJ, aK, cD, H⟩ := H
   ·try have ce : (9223372036854775807 < 1 + ((fJ l0 a1).f0).size) = False := eq_false (Nat.not_lt.2 cD)
    have H' := a_ H; clear H; have bD : 0 ≤ (a1 : Int) := of_decide_eq_true y1_; have bE : a1 < (l0.length : Int) := of_decide_eq_true y1_; obtain ⟨bN, cK, cL, cM, a9, ba, aW, bb, bc⟩ := nC bp.out a1 bD bE; cases cM; have cE := a_ bc; have cF := a_ bb; clear bc bb; replace bD := eq_true bD; replace bE := eq_true bE; have bF : 0 ≤ (a1 : Int) := of_decide_eq_true y1_; have bG : a1 < (l0.length : Int) := of_decide_eq_true y1_; obtain ⟨cf, cN, cO, cP, bd, be, aX, bf, bg⟩ := nC bp.out a1 bF bG; obtain rfl : bN = cf := (by injection cP); have cG := a_ bg; have cH := a_ bf; clear bg bf; replace bF := eq_true bF; replace bG := eq_true bG; have ea_ := Option.some.inj (aW.symm.trans aX); injection ea_ with ea_ en_ ec_; subst ea_; subst ec_; clear en_; go_enter Tryz.func51, Tryz.ntmps51
    go_wp2
    repeat (go_quiet (fail); try go_wp2)
    go_loopg [6, 7] k (fun kq v6 v7 w' => ∃ (aa : ByteArray) (an : Int), v6 = .string aa ∧ v7 = .int .i64 an ∧ fD (jC.l0 kq l0 a1 aa an = some r) ∧ fD (kq ≤ k) ∧ fD (Below w.heap.size w w'))
    case atStart => exact ⟨((⟨#[60]⟩ : ByteArray) ++ ((fJ l0 a1).f0)), (0), y3_, y3_, H', ⟨Nat.le_refl _⟩, ⟨y0_⟩⟩
    case round =>
     clear H'; (try clear dj); (try clear ap); (try clear dk); (try clear aw); (try clear cD); (try clear aJ); (try clear aK); (try clear ce); (try clear a9); (try clear ba); (try clear aW); (try clear bd); (try clear be); (try clear aX); (try clear bD); (try clear bF); (try clear bE); (try clear bG); obtain ⟨aa, an, rfl, rfl, HA, HK1, HB⟩ := hrel; cases gk with
     | zero => exact absurd HA.out (by simp [jC.l0])
     | succ k1 =>
      have H := HA.out; clear HA; simp only [jC.l0] at H; replace H := kd_ H; obtain ⟨br, -, H⟩ := H; replace H := kd_ H; obtain ⟨aA, -, H⟩ := H; replace H := id_ H; obtain ⟨aT, -, H⟩ | ⟨aT, -, H⟩ := H; replace H := kq_ H; obtain ⟨a5, bs, bY, H⟩ := H; try have bL : (9223372036854775807 < aa.size + 1) = False := eq_false (Nat.not_lt.2 bY)
      replace H := kd_ H; obtain ⟨a6, -, H⟩ := H; replace H := kq_ H; obtain ⟨a3, a7, bu, H⟩ := H; try have a8 : (9223372036854775807 < (aa ++ (⟨#[32]⟩ : ByteArray)).size + ((iU ((fJ l0 a1).f2) an).f0).size) = False := eq_false (Nat.not_lt.2 bu)
      try have cc : (9223372036854775807 < aa.size + 1 + ((iU ((fJ l0 a1).f2) an).f0).size) = False := eq_false (Nat.not_lt.2 (by have h_ := bu; (try simp only [ByteArray.size_append, ByteArray.size_extract] at h_); have s0_ : (⟨#[32]⟩ : ByteArray).size = 1 := rfl;  omega))
      replace H := kq_ H; obtain ⟨cg, ch, ci, H⟩ := H; try have cj : (9223372036854775807 < ((aa ++ (⟨#[32]⟩ : ByteArray)) ++ ((iU ((fJ l0 a1).f2) an).f0)).size + 2) = False := eq_false (Nat.not_lt.2 ci)
      try have ck : (9223372036854775807 < aa.size + 1 + ((iU ((fJ l0 a1).f2) an).f0).size + 2) = False := eq_false (Nat.not_lt.2 (by have h_ := ci; (try simp only [ByteArray.size_append, ByteArray.size_extract] at h_); have s0_ : (⟨#[32]⟩ : ByteArray).size = 1 := rfl;  omega))
      replace H := bd_ H; obtain ⟨a4, cl, H⟩ := H; replace H := kq_ H; obtain ⟨cQ, cR, cm, H⟩ := H; try have cS : (9223372036854775807 < (((aa ++ (⟨#[32]⟩ : ByteArray)) ++ ((iU ((fJ l0 a1).f2) an).f0)) ++ (⟨#[61, 34]⟩ : ByteArray)).size + a4.size) = False := eq_false (Nat.not_lt.2 cm)
      try have cT : (9223372036854775807 < aa.size + 1 + ((iU ((fJ l0 a1).f2) an).f0).size + 2 + a4.size) = False := eq_false (Nat.not_lt.2 (by have h_ := cm; (try simp only [ByteArray.size_append, ByteArray.size_extract] at h_); have s0_ : (⟨#[32]⟩ : ByteArray).size = 1 := rfl; have s1_ : (⟨#[61, 34]⟩ : ByteArray).size = 2 := rfl;  omega))
      replace H := kq_ H; obtain ⟨cU, cV, cn, H⟩ := H; try have cW : (9223372036854775807 < ((((aa ++ (⟨#[32]⟩ : ByteArray)) ++ ((iU ((fJ l0 a1).f2) an).f0)) ++ (⟨#[61, 34]⟩ : ByteArray)) ++ a4).size + 1) = False := eq_false (Nat.not_lt.2 cn)
      try have cX : (9223372036854775807 < aa.size + 1 + ((iU ((fJ l0 a1).f2) an).f0).size + 2 + a4.size + 1) = False := eq_false (Nat.not_lt.2 (by have h_ := cn; (try simp only [ByteArray.size_append, ByteArray.size_extract] at h_); have s0_ : (⟨#[32]⟩ : ByteArray).size = 1 := rfl; have s1_ : (⟨#[61, 34]⟩ : ByteArray).size = 2 := rfl;  omega))
      have H' := a_ H; clear H; obtain ⟨bR, bS⟩ := t2_; rotate_left
      replace H := bd_ H; obtain ⟨dg, dl, H⟩ := H; replace H := ie_ H; obtain ⟨a6, bM, -, H⟩ | ⟨a6, bM, df, H⟩ := H; replace H := kq_ H; obtain ⟨a3, a7, bu, H⟩ := H; try have a8 : (9223372036854775807 < aa.size + 2) = False := eq_false (Nat.not_lt.2 bu)
      obtain rfl := Option.some.inj H; have cY := t_; rotate_left
      have dh : ¬ (dg = []) := fun h_ => df (by rw [h_]; rfl); replace H := kq_ H; obtain ⟨a3, a7, bu, H⟩ := H; try have a8 : (9223372036854775807 < aa.size + 1) = False := eq_false (Nat.not_lt.2 bu)
      obtain rfl := Option.some.inj H; have cZ := t_; rotate_left
      all_goals (
       have ab : 0 ≤ (a1 : Int) := of_decide_eq_true y1_; have ac : a1 < (l0.length : Int) := of_decide_eq_true y1_; (try clear a9 ba aW); (try clear bd be aX)
       obtain ⟨al, A9922068_2, c9922068_2, aq, ad, ae, af, ag, ah⟩ := nC bp.out a1 ab ac; obtain rfl : bN = al := (by injection aq); replace ad := cT_ HB.out ad; replace ae := cT_ HB.out ae; replace af := cT_ HB.out af; have HR9922068_2 := a_ ah; have az := a_ ag; clear ah ag; replace ab := eq_true ab; replace ac := eq_true ac
       try(clear bR; have ai : 0 ≤ (an : Int) := of_decide_eq_true y1_; have aj : an < (((fJ l0 a1).f2).length : Int) := of_decide_eq_true y1_; obtain ⟨au, ar, ak, am⟩ := oW HR9922068_2.out an ai aj; cases ar; replace ak := cT_ HB.out ak; replace am := cT_ HB.out am; replace ai := eq_true ai; replace aj := eq_true aj; have aN : 0 ≤ (an : Int) := of_decide_eq_true y1_; have aQ : an < (((fJ l0 a1).f2).length : Int) := of_decide_eq_true y1_; obtain ⟨bj, bv, aC, aD⟩ := oW HR9922068_2.out an aN aQ; obtain rfl : au = bj := (by injection bv); replace aC := cT_ HB.out aC; replace aD := cT_ HB.out aD; replace aN := eq_true aN; replace aQ := eq_true aQ)
       go_wp2_with (first | (go_at_call 64; (with_reducible refine (iZ.calls k1 ((iU ((fJ l0 a1).f2) an).f1) a4 _ cl.out).mono ?_); rintro e w' ⟨rfl, ⟨nd, rfl⟩⟩; (try exact yd_)) | (go_at_call 52; (with_reducible refine (jf.calls k1 _ _ l0 a1 dg _ ?side1 ?side2 dl.out).mono ?_); (case side1 => repeat (first | exact (Kd.l9 bp.out HB.out) | (with_reducible refine Kd.jh ?_ _) | (with_reducible refine Kd.jk ?_ _) | (with_reducible refine Kd.jK ?_))); (case side2 => exact bX.out); rintro e co ⟨cp, rfl, cq, hb⟩; have n_ := s2_ (Kd.jQ cq (fV y0_)) (fZ y0_ hb); clear HB; obtain ⟨bk, HB⟩ := n_; (try clear hb); (try clear hb9046832); (try clear hk); (try clear hi); (try clear cq); obtain ⟨bZ, b0, bl⟩ := Kd.jc bk.out; subst bl) | go_quiet (first | (go_at_call 64; (with_reducible refine (iZ.calls k1 ((iU ((fJ l0 a1).f2) an).f1) a4 _ cl.out).mono ?_); rintro e w' ⟨rfl, ⟨nd, rfl⟩⟩; (try exact yd_))))
       try(
         clear bS; go_roundg k1
         case measure => have := HK1.out; omega
         case rel => exact ⟨(((((aa ++ (⟨#[32]⟩ : ByteArray)) ++ ((iU ((fJ l0 a1).f2) an).f0)) ++ (⟨#[61, 34]⟩ : ByteArray)) ++ a4) ++ (⟨#[34]⟩ : ByteArray)), (wrap64 (an + 1)), y3_, y3_, H', ⟨pq⟩, ⟨y0_⟩⟩)
       try(
         clear cY; go_ret
         exact ⟨y6_, y0_⟩)
       try(
         clear cZ; go_ret
         exact ⟨y6_, y0_⟩))

/-! ### jg: function 28 -/
mutual
def jg.l0 : Nat → List (S33) → Int → ByteArray → List Int → Int → Option (ByteArray)
  | 0, _, _, _, _, _ => none
  | k + 1, x0, x1, x6, x7, x8 => if x8 < (x7.length : Int) then (if 0 ≤ x8 then ((jg.f k x0 (rd x7 x8)).bind fun cr => (if x6.size + cr.size ≤ 9223372036854775807 then (jg.l0 k x0 x1 (x6 ++ cr) x7 (wrap64 (x8 + 1))) else (none))) else (none)) else (if x6.size + 2 ≤ 9223372036854775807 then (if 0 ≤ x1 then (if x1 < (x0.length : Int) then (if (x6 ++ (⟨#[60, 47]⟩ : ByteArray)).size + ((fJ x0 x1).f0).size ≤ 9223372036854775807 then (if ((x6 ++ (⟨#[60, 47]⟩ : ByteArray)) ++ ((fJ x0 x1).f0)).size + 1 ≤ 9223372036854775807 then (some (((x6 ++ (⟨#[60, 47]⟩ : ByteArray)) ++ ((fJ x0 x1).f0)) ++ (⟨#[62]⟩ : ByteArray))) else (none)) else (none)) else (none)) else (none)) else (none))
def jg.f : Nat → List (S33) → Int → Option (ByteArray)
  | 0, _, _ => none
  | k + 1, l0, a1 => if 0 ≤ a1 then (if a1 < (l0.length : Int) then ((jC.f k l0 a1).bind fun bw => ((jf.f k l0 a1).bind fun bx => (if (bx.length : Int) = 0 then (some bw) else (jg.l0 k l0 a1 bw bx 0)))) else (none)) else (none)
end
theorem jg.iQ : ∀ k, (∀ y0 y1, LeO (jg.f k y0 y1) (jg.f (k + 1) y0 y1)) ∧ (∀ y0 y1 y2 y3 y4, LeO (jg.l0 k y0 y1 y2 y3 y4) (jg.l0 (k + 1) y0 y1 y2 y3 y4))
  | 0 => ⟨fun _ _ r h => by simp [jg.f] at h, fun _ _ _ _ _ r h => by simp [jg.l0] at h⟩
  | k + 1 => by
    obtain ⟨aI, c1⟩ := jg.iQ k
    refine ⟨?_, ?_⟩
    · intro y0 y1
      unfold jg.f
      repeat' (with_reducible first | exact aI _ _ | exact c1 _ _ _ _ _ | exact jf.mono _ _ _ | exact jC.mono _ _ _ | exact LeO.refl _ | exact LeO.none _ | refine LeO.ite ?_ ?_ | refine LeO.bind ?_ (fun _ => ?_))
    · intro y0 y1 y2 y3 y4
      unfold jg.l0
      repeat' (with_reducible first | exact aI _ _ | exact c1 _ _ _ _ _ | exact jf.mono _ _ _ | exact jC.mono _ _ _ | exact LeO.refl _ | exact LeO.none _ | refine LeO.ite ?_ ?_ | refine LeO.bind ?_ (fun _ => ?_))
theorem jg.mono : ∀ a0 a1 k, LeO (jg.f k a0 a1) (jg.f (k + 1) a0 a1) := by
  intro a0 a1 k
  obtain ⟨aI, c1⟩ := jg.iQ k
  exact aI a0 a1
theorem jg.calls (k : Nat) : ∀ (A0 : Option Addr) (c0 : Nat) (l0 : List (S33)) (a1 : Int) (r : ByteArray) (w : World) (bC : Kd.C k33 w A0 l0.length l0) (hc0 : l0.length ≤ c0) (h : jg.f k l0 a1 = some r),
    Calls Tryz.prog 28 #[.slice A0 l0.length c0, .int .i64 a1] w fun e w' => e = .returned (.string r) ∧ Below w.heap.size w w' := by
 induction k using Nat.strongRecOn with
 | _ k ih =>
 intro A0 c0 l0 a1 r w bC hc0 h; cases k with
 | zero => exact absurd h (by simp [jg.f])
 | succ k =>
 simp only [jg.f] at h; have bp := a_ bC; have bX := a_ hc0; clear bC hc0; have HB := a_ (Below.refl w.heap.size w); have H : (if 0 ≤ a1 then (if a1 < (l0.length : Int) then ((jC.f k l0 a1).bind fun bw => ((jf.f k l0 a1).bind fun bx => (if (bx.length : Int) = 0 then (some bw) else (jg.l0 k l0 a1 bw bx 0)))) else (none)) else (none)) = some r := h; clear h; replace H := kd_ H; obtain ⟨ap, -, H⟩ := H; replace H := kd_ H; obtain ⟨aw, -, H⟩ := H; replace H := bd_ H; obtain ⟨b1, bT, H⟩ := H; replace H := bd_ H; obtain ⟨bO, dm, H⟩ := H; replace H := ie_ H; obtain ⟨aA, aM, -, H⟩ | ⟨aA, aM, ca, H⟩ := H; obtain rfl := Option.some.inj H; have av := t_; rotate_left; have bJ : ¬ (bO = []) := fun h_ => ca (by rw [h_]; rfl); have H' := a_ H; clear H; have aR := t_; rotate_left
 all_goals (
  have ab : 0 ≤ (a1 : Int) := of_decide_eq_true y1_; have ac : a1 < (l0.length : Int) := of_decide_eq_true y1_; obtain ⟨al, A9922068_2, c9922068_2, aq, ad, ae, af, ag, ah⟩ := nC bp.out a1 ab ac; cases aq; have HR9922068_2 := a_ ah; have az := a_ ag; clear ah ag; replace ab := eq_true ab; replace ac := eq_true ac; go_enter Tryz.func28, Tryz.ntmps28
  go_wp2_with (first | ((with_reducible refine gm (f := 51) rfl ?_); refine gc_ 51 14 Tryz.func51 #[.slice (some al) l0.length c0, .int .i64 a1] ?_; (with_reducible refine (jC.calls k _ _ l0 a1 b1 _ ?side1 ?side2 bT.out).mono ?_); (case side1 => repeat (first | exact bp.out | (with_reducible refine Kd.jh ?_ _) | (with_reducible refine Kd.jk ?_ _) | (with_reducible refine Kd.jK ?_))); (case side2 => exact bX.out); rintro e ct ⟨rfl, hb⟩; refine ⟨_, rfl, ?_⟩; have n0_ := a_ (fZ y0_ hb); clear HB; have HB := n0_; clear n0_; (try clear hb); (try clear hb9901260); (try clear hk); (try clear hi)) | ((with_reducible refine gm (f := 52) rfl ?_); refine gc_ 52 17 Tryz.func52 #[.slice (some al) l0.length c0, .int .i64 a1] ?_; (with_reducible refine (jf.calls k _ _ l0 a1 bO _ ?side1 ?side2 dm.out).mono ?_); (case side1 => repeat (first | exact (Kd.l9 bp.out HB.out) | (with_reducible refine Kd.jh ?_ _) | (with_reducible refine Kd.jk ?_ _) | (with_reducible refine Kd.jK ?_))); (case side2 => exact bX.out); rintro e cu ⟨cv, rfl, cq, hb⟩; refine ⟨_, rfl, ?_⟩; have n_ := s2_ (Kd.jQ cq (fV y0_)) (fZ y0_ hb); clear HB; obtain ⟨aV, HB⟩ := n_; (try clear hb); (try clear hb9901260); (try clear hk); (try clear hi); (try clear cq); obtain ⟨bm, bn, bo⟩ := Kd.jc aV.out; subst bo))
  try(
    clear av; go_ret
    exact ⟨y6_, y0_⟩)
  try(
    clear aR; go_loopg [6, 8] k (fun kq bz bA w' => ∃ (aa : ByteArray) (aY : Int), bz = .string aa ∧ bA = .int .i64 aY ∧ fD (jg.l0 kq l0 a1 aa bO aY = some r) ∧ fD (kq ≤ k) ∧ fD (Kd.R (Kd.int .i64) 2 w' w.heap.size (fun _ => True) (.slice bm bO.length bn) bO) ∧ fD (Below w.heap.size w w'))
    case atStart => exact ⟨(b1), (0), y3_, y3_, H', ⟨Nat.le_refl _⟩, ⟨by (with_reducible repeat (first | apply Kd.iq | apply Kd.gY | apply Kd.iE)); exact aV.out⟩, ⟨y0_⟩⟩
    case round =>
     clear H'; (try clear dj); (try clear ap); (try clear dk); (try clear aw); (try clear ca); (try clear aA); (try clear aM); (try clear bJ); (try clear ad); (try clear ae); (try clear af); (try clear ab); (try clear ac); obtain ⟨aa, aY, rfl, rfl, HA, ay, bB, HB⟩ := hrel; cases gk with
     | zero => exact absurd HA.out (by simp [jg.l0])
     | succ k1 =>
      have H := HA.out; clear HA; simp only [jg.l0] at H; replace H := id_ H; obtain ⟨aT, -, H⟩ | ⟨aT, -, H⟩ := H; replace H := kd_ H; obtain ⟨a5, -, H⟩ := H; replace H := bd_ H; obtain ⟨c3, dn, H⟩ := H; replace H := kq_ H; obtain ⟨a3, a7, bu, H⟩ := H; try have a8 : (9223372036854775807 < aa.size + c3.size) = False := eq_false (Nat.not_lt.2 bu)
      have H' := a_ H; clear H; have bR := t_; rotate_left
      replace H := kq_ H; obtain ⟨a5, bs, bY, H⟩ := H; try have bL : (9223372036854775807 < aa.size + 2) = False := eq_false (Nat.not_lt.2 bY)
      replace H := kd_ H; obtain ⟨a6, -, H⟩ := H; replace H := kd_ H; obtain ⟨a3, -, H⟩ := H; replace H := kq_ H; obtain ⟨cg, ch, ci, H⟩ := H; try have cj : (9223372036854775807 < (aa ++ (⟨#[60, 47]⟩ : ByteArray)).size + ((fJ l0 a1).f0).size) = False := eq_false (Nat.not_lt.2 ci)
      try have ck : (9223372036854775807 < aa.size + 2 + ((fJ l0 a1).f0).size) = False := eq_false (Nat.not_lt.2 (by have h_ := ci; (try simp only [ByteArray.size_append, ByteArray.size_extract] at h_); have s0_ : (⟨#[60, 47]⟩ : ByteArray).size = 2 := rfl;  omega))
      replace H := kq_ H; obtain ⟨c4, c5, cw, H⟩ := H; try have c6 : (9223372036854775807 < ((aa ++ (⟨#[60, 47]⟩ : ByteArray)) ++ ((fJ l0 a1).f0)).size + 1) = False := eq_false (Nat.not_lt.2 cw)
      try have c7 : (9223372036854775807 < aa.size + 2 + ((fJ l0 a1).f0).size + 1) = False := eq_false (Nat.not_lt.2 (by have h_ := cw; (try simp only [ByteArray.size_append, ByteArray.size_extract] at h_); have s0_ : (⟨#[60, 47]⟩ : ByteArray).size = 2 := rfl;  omega))
      obtain rfl := Option.some.inj H; have bS := t_; rotate_left
      all_goals (
       try(
         clear bR; have ai : 0 ≤ (aY : Int) := of_decide_eq_true y1_; have aj : aY < (bO.length : Int) := of_decide_eq_true y1_; obtain ⟨au, ar, ak⟩ := Kd.qR (Kd.iL bB.out).2.2 aY ai aj; cases ar; replace ai := eq_true ai; replace aj := eq_true aj; go_wp2_with (first | ((with_reducible refine gm (f := 28) rfl ?_); refine gc_ 28 34 Tryz.func28 #[.slice (some al) l0.length c0, .int .i64 (rd bO aY)] ?_; (with_reducible refine (ih k1 (by have := ay.out; omega) _ _ l0 (rd bO aY) c3 _ ?side1 ?side2 dn.out).mono ?_); (case side1 => repeat (first | exact (Kd.l9 bp.out HB.out) | (with_reducible refine Kd.jh ?_ _) | (with_reducible refine Kd.jk ?_ _) | (with_reducible refine Kd.jK ?_))); (case side2 => exact bX.out); rintro e cx ⟨rfl, hb⟩; refine ⟨_, rfl, ?_⟩; have n_ := s2_ (Kd.jY (by (with_reducible repeat (first | apply Kd.iq | apply Kd.gY | apply Kd.iE)); exact bB.out) hb) (fZ y0_ hb); clear bB HB; obtain ⟨bB, HB⟩ := n_; (try clear hb); (try clear hb9901260); (try clear hk); (try clear hi)))
         go_roundg k1
         case measure => have := ay.out; omega
         case rel => exact ⟨(aa ++ c3), (wrap64 (aY + 1)), y3_, y3_, H', ⟨by have := ay.out; omega⟩, ⟨by (with_reducible repeat (first | apply Kd.iq | apply Kd.gY | apply Kd.iE)); exact bB.out⟩, ⟨y0_⟩⟩)
       try(
         clear bS; have ai : 0 ≤ (a1 : Int) := of_decide_eq_true y1_; have aj : a1 < (l0.length : Int) := of_decide_eq_true y1_; (try clear ad ae af); obtain ⟨au, bU, bV, ar, ak, am, aE, aG, aH⟩ := nC bp.out a1 ai aj; obtain rfl : al = au := (by injection ar); replace ak := cT_ HB.out ak; replace am := cT_ HB.out am; replace aE := cT_ HB.out aE; have HR9548309_2 := a_ aH; have bP := a_ aG; clear aH aG; replace ai := eq_true ai; replace aj := eq_true aj; go_wp2
         go_ret
         exact ⟨y6_, y0_⟩))))

-- by hand: function 10 (jL)

-- NOT PRINTED: function 71 (stringslite_HasPrefix)

-- NOT PRINTED: function 65 (stringslite_CutPrefix)

-- by hand: function 53 (strings_CutPrefix)

-- NOT PRINTED: function 54 (impl_run)

/-! ### oh: function 55 -/
def oh.f (a0 : Int) : Option (Bool) := if a0 = 32 then (some true) else (some (a0 == 10))
theorem oh.calls (a0 : Int) (r : Bool) (w : World) (h : oh.f a0 = some r) :
    Calls Tryz.prog 55 #[.int .u8 a0] w fun e w' => e = .returned (.bool r) ∧ jP w w' := by
 have H : (if a0 = 32 then (some true) else (some (a0 == 10))) = some r := h; clear h; replace H := ie_ H; obtain ⟨c8, c9, -, H⟩ | ⟨c8, c9, c2, H⟩ := H
 ·obtain rfl := Option.some.inj H; go_enter Tryz.func55, Tryz.ntmps55
  go_wp2
  go_ret
  exact ⟨y3_, y5_⟩
 ·obtain rfl := Option.some.inj H; go_enter Tryz.func55, Tryz.ntmps55
  go_wp2
  go_ret
  exact ⟨y3_, y5_⟩

-- NOT PRINTED: function 83 (bytealg_IndexByteString)

-- NOT PRINTED: function 77 (stringslite_IndexByte)

-- NOT PRINTED: function 78 (bytealg_IndexString)

-- NOT PRINTED: function 79 (bytealg_Cutover)

-- NOT PRINTED: function 84 (bytealg_hashStr_string)

-- NOT PRINTED: function 80 (bytealg_IndexRabinKarp_string)

-- NOT PRINTED: function 72 (stringslite_Index)

-- NOT PRINTED: function 66 (stringslite_Cut)

-- by hand: function 56 (strings_Cut)

/-! ### gy: function 138 -/
def gy.l0 : Nat → ByteArray → Int → Option (ByteArray × ByteArray)
  | 0, _, _ => none
  | k + 1, x0, x6 => if x6 < (x0.size : Int) then (if 0 ≤ x6 then ((ng.f (bt x0 x6)).bind fun bW => (if bW = true then (gy.l0 k x0 (wrap64 (x6 + 1))) else (if x6 ≤ (x0.size : Int) then (some (x0.extract 0 (x6 : Int).toNat, x0.extract (x6 : Int).toNat x0.size)) else (none)))) else (none)) else (if 0 ≤ x6 then (if x6 ≤ (x0.size : Int) then (some (x0.extract 0 (x6 : Int).toNat, x0.extract (x6 : Int).toNat x0.size)) else (none)) else (none))
def gy.f (k : Nat) (a0 : ByteArray)  : Option (ByteArray × ByteArray) := gy.l0 k a0 0
theorem gy.iQ : ∀ k, (∀ y0 y1, LeO (gy.l0 k y0 y1) (gy.l0 (k + 1) y0 y1))
  | 0 => fun _ _ r h => by simp [gy.l0] at h
  | k + 1 => by
    have aI := gy.iQ k
    · intro y0 y1
      unfold gy.l0
      repeat' (with_reducible first | exact aI _ _ | exact LeO.refl _ | exact LeO.none _ | refine LeO.ite ?_ ?_ | refine LeO.bind ?_ (fun _ => ?_))
theorem gy.mono : ∀ a0 k, LeO (gy.f k a0) (gy.f (k + 1) a0) := by
  intro a0 k
  have aI := gy.iQ k
  unfold gy.f
  repeat' (with_reducible first | exact aI _ _ | exact LeO.refl _ | exact LeO.none _ | refine LeO.ite ?_ ?_ | refine LeO.bind ?_ (fun _ => ?_))
theorem gy.calls (k : Nat) (a0 : ByteArray)  (r1 : ByteArray) (r2 : ByteArray) (w : World) (h : gy.f k a0 = some (r1, r2)) :
    Calls Tryz.prog 54 #[.string a0, .func (.func 41) #[] #[]] w fun e w' => e = .returned (.tuple #[.string r1, .string r2]) ∧ jP w w' := by
 have H : (gy.l0 k a0 0) = some (r1, r2) := h; clear h; have H' := a_ H; clear H; go_enter Tryz.func54, Tryz.ntmps54
 go_wp2
 repeat (go_quiet (fail); try go_wp2)
 go_loopg [6] k (fun kq v6 w' => ∃ (aa : Int), v6 = .int .i64 aa ∧ fD (gy.l0 kq a0 aa = some (r1, r2)) ∧ fD (kq ≤ k) ∧ jP w w')
 case atStart => exact ⟨(0), y3_, H', ⟨Nat.le_refl _⟩, y5_⟩
 case round =>
  clear H'; obtain ⟨aa, rfl, HA, HK1, ⟨m1, rfl⟩⟩ := hrel; cases gk with
  | zero => exact absurd HA.out (by simp [gy.l0])
  | succ k1 =>
   have H := HA.out; clear HA; simp only [gy.l0] at H; replace H := id_ H; obtain ⟨ap, -, H⟩ | ⟨ap, -, H⟩ := H; replace H := kd_ H; obtain ⟨aw, -, H⟩ := H; replace H := bd_ H; obtain ⟨b1, bT, H⟩ := H; by_cases bq : b1 = true; subst bq; rw [if_pos rfl] at H; have H' := a_ H; clear H; obtain ⟨av, aR⟩ := t2_; rotate_left; replace bq := Bool.eq_false_iff.mpr bq; subst bq; rw [if_neg (show ¬ (false = true) by decide)] at H; have da := eq_true (of_decide_eq_true y1_ : 0 ≤ aa); replace H := kq_ H; obtain ⟨aA, aM, -, H⟩ := H; have cy := eq_true (of_decide_eq_true y1_ : 0 ≤ aa); have cz := eq_true (of_decide_eq_true y1_ : aa ≤ (a0.size : Int)); replace H := j2_ H; obtain ⟨rfl, rfl⟩ := H; obtain ⟨av, aZ⟩ := t2_; rotate_left
   replace H := kq_ H; obtain ⟨aw, cA, -, H⟩ := H; replace H := kq_ H; obtain ⟨aJ, aK, -, H⟩ := H; have cB := eq_true (of_decide_eq_true y1_ : 0 ≤ aa); have cC := eq_true (of_decide_eq_true y1_ : aa ≤ (a0.size : Int)); replace H := j2_ H; obtain ⟨rfl, rfl⟩ := H; have a2 := t_; rotate_left
   all_goals (
    try(clear av; have ab : 0 ≤ (aa : Int) := of_decide_eq_true y1_; have ac : aa < (a0.size : Int) := of_decide_eq_true y1_; have aU := lL a0 aa; replace ab := eq_true ab; replace ac := eq_true ac; go_wp2_with (first | (go_at_call 41; (with_reducible refine (ng.calls (bt a0 aa) _ _ bT.out).mono ?_); rintro e w' ⟨rfl, ⟨nd, rfl⟩⟩; (try exact yd_)) | go_quiet (first | (go_at_call 41; (with_reducible refine (ng.calls (bt a0 aa) _ _ bT.out).mono ?_); rintro e w' ⟨rfl, ⟨nd, rfl⟩⟩; (try exact yd_)))))
    try(
      clear aR; go_roundg k1
      case measure => have := HK1.out; omega
      case rel => exact ⟨(wrap64 (aa + 1)), y3_, H', ⟨pq⟩, y5_⟩)
    try(
      clear aZ; go_ret2
      exact ⟨y3_, y5_⟩)
    try(
      clear a2; go_wp2
      repeat (go_quiet (fail); try go_wp2)
      go_ret2
      exact ⟨y3_, y5_⟩))

/-! ### ig: function 139 -/
def ig.l0 : Nat → ByteArray → Int → Option (ByteArray × ByteArray)
  | 0, _, _ => none
  | k + 1, x0, x6 => if x6 < (x0.size : Int) then (if 0 ≤ x6 then ((oh.f (bt x0 x6)).bind fun bW => (if bW = true then (ig.l0 k x0 (wrap64 (x6 + 1))) else (if x6 ≤ (x0.size : Int) then (some (x0.extract 0 (x6 : Int).toNat, x0.extract (x6 : Int).toNat x0.size)) else (none)))) else (none)) else (if 0 ≤ x6 then (if x6 ≤ (x0.size : Int) then (some (x0.extract 0 (x6 : Int).toNat, x0.extract (x6 : Int).toNat x0.size)) else (none)) else (none))
def ig.f (k : Nat) (a0 : ByteArray)  : Option (ByteArray × ByteArray) := ig.l0 k a0 0
theorem ig.iQ : ∀ k, (∀ y0 y1, LeO (ig.l0 k y0 y1) (ig.l0 (k + 1) y0 y1))
  | 0 => fun _ _ r h => by simp [ig.l0] at h
  | k + 1 => by
    have aI := ig.iQ k
    · intro y0 y1
      unfold ig.l0
      repeat' (with_reducible first | exact aI _ _ | exact LeO.refl _ | exact LeO.none _ | refine LeO.ite ?_ ?_ | refine LeO.bind ?_ (fun _ => ?_))
theorem ig.mono : ∀ a0 k, LeO (ig.f k a0) (ig.f (k + 1) a0) := by
  intro a0 k
  have aI := ig.iQ k
  unfold ig.f
  repeat' (with_reducible first | exact aI _ _ | exact LeO.refl _ | exact LeO.none _ | refine LeO.ite ?_ ?_ | refine LeO.bind ?_ (fun _ => ?_))
theorem ig.calls (k : Nat) (a0 : ByteArray)  (r1 : ByteArray) (r2 : ByteArray) (w : World) (h : ig.f k a0 = some (r1, r2)) :
    Calls Tryz.prog 54 #[.string a0, .func (.func 55) #[] #[]] w fun e w' => e = .returned (.tuple #[.string r1, .string r2]) ∧ jP w w' := by
 have H : (ig.l0 k a0 0) = some (r1, r2) := h; clear h; have H' := a_ H; clear H; go_enter Tryz.func54, Tryz.ntmps54
 go_wp2
 repeat (go_quiet (fail); try go_wp2)
 go_loopg [6] k (fun kq v6 w' => ∃ (aa : Int), v6 = .int .i64 aa ∧ fD (ig.l0 kq a0 aa = some (r1, r2)) ∧ fD (kq ≤ k) ∧ jP w w')
 case atStart => exact ⟨(0), y3_, H', ⟨Nat.le_refl _⟩, y5_⟩
 case round =>
  clear H'; obtain ⟨aa, rfl, HA, HK1, ⟨m1, rfl⟩⟩ := hrel; cases gk with
  | zero => exact absurd HA.out (by simp [ig.l0])
  | succ k1 =>
   have H := HA.out; clear HA; simp only [ig.l0] at H; replace H := id_ H; obtain ⟨ap, -, H⟩ | ⟨ap, -, H⟩ := H; replace H := kd_ H; obtain ⟨aw, -, H⟩ := H; replace H := bd_ H; obtain ⟨b1, bT, H⟩ := H; by_cases bq : b1 = true; subst bq; rw [if_pos rfl] at H; have H' := a_ H; clear H; obtain ⟨av, aR⟩ := t2_; rotate_left; replace bq := Bool.eq_false_iff.mpr bq; subst bq; rw [if_neg (show ¬ (false = true) by decide)] at H; have da := eq_true (of_decide_eq_true y1_ : 0 ≤ aa); replace H := kq_ H; obtain ⟨aA, aM, -, H⟩ := H; have cy := eq_true (of_decide_eq_true y1_ : 0 ≤ aa); have cz := eq_true (of_decide_eq_true y1_ : aa ≤ (a0.size : Int)); replace H := j2_ H; obtain ⟨rfl, rfl⟩ := H; obtain ⟨av, aZ⟩ := t2_; rotate_left
   replace H := kq_ H; obtain ⟨aw, cA, -, H⟩ := H; replace H := kq_ H; obtain ⟨aJ, aK, -, H⟩ := H; have cB := eq_true (of_decide_eq_true y1_ : 0 ≤ aa); have cC := eq_true (of_decide_eq_true y1_ : aa ≤ (a0.size : Int)); replace H := j2_ H; obtain ⟨rfl, rfl⟩ := H; have a2 := t_; rotate_left
   all_goals (
    try(clear av; have ab : 0 ≤ (aa : Int) := of_decide_eq_true y1_; have ac : aa < (a0.size : Int) := of_decide_eq_true y1_; have aU := lL a0 aa; replace ab := eq_true ab; replace ac := eq_true ac; go_wp2_with (first | (go_at_call 55; (with_reducible refine (oh.calls (bt a0 aa) _ _ bT.out).mono ?_); rintro e w' ⟨rfl, ⟨nd, rfl⟩⟩; (try exact yd_)) | go_quiet (first | (go_at_call 55; (with_reducible refine (oh.calls (bt a0 aa) _ _ bT.out).mono ?_); rintro e w' ⟨rfl, ⟨nd, rfl⟩⟩; (try exact yd_)))))
    try(
      clear aR; go_roundg k1
      case measure => have := HK1.out; omega
      case rel => exact ⟨(wrap64 (aa + 1)), y3_, H', ⟨pq⟩, y5_⟩)
    try(
      clear aZ; go_ret2
      exact ⟨y3_, y5_⟩)
    try(
      clear a2; go_wp2
      repeat (go_quiet (fail); try go_wp2)
      go_ret2
      exact ⟨y3_, y5_⟩))

end Go.Proofs.YtbibioffldkanaaGreatDoor.K
