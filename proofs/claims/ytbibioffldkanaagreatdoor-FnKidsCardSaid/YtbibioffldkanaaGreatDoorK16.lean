-- Written by a program of this session's own (xp.py) for this seat.
import Derived.Test.YtbibioffldkanaaGreatDoorKH
import Derived.Test.YtbibioffldkanaaGreatDoorK8
namespace Go.Proofs.YtbibioffldkanaaGreatDoor.K
open Go.RowKit Go.Proofs.YtbibioffldkanaaGreatDoorW.PrintWords Go.Proofs.YtbibioffldkanaaGreatDoorW.PrintLast Go.Proofs.YtbibioffldkanaaGreatDoorW.PrintMore
attribute [local go_sem] Instr.field asAgg
attribute [local go_sem] lS lQ mY mX lm lq lT lU   -- for this text's walks alone
set_option maxHeartbeats 8000000
set_option maxRecDepth 100000
set_option linter.unusedVariables false
set_option linter.unusedSimpArgs false

/-! ### gZ: function 57 -/
mutual
def gZ.l0 : Nat → ByteArray → List Int → Option (ByteArray × Bool)
  | 0, _, _ => none
  | k + 1, x0, x4 => if x0.toList = ([] : List UInt8) then (some (strOfNums x4, true)) else (if 0 < (x0.size : Int) then (if 1 ≤ (x0.size : Int) then (if (bt x0 0) = 38 then ((strings_Cut.f (x0.extract 1 x0.size) (⟨#[59]⟩ : ByteArray)).bind fun ay => ((nZ.f ay.1).bind fun ag => (if ay.2.2 = true then (gZ.j1 k x4 ay.2.1 true ag.1 ag.2 (!ag.2)) else (gZ.j1 k x4 ay.2.1 false ag.1 ag.2 true)))) else ((l7.f (bt x0 0)).bind fun bS => (if bS = true then (if (bt x0 0) = 60 then (some ((⟨#[]⟩ : ByteArray), false)) else (if (bt x0 0) = 62 then (some ((⟨#[]⟩ : ByteArray), false)) else (if (bt x0 0) = 34 then (some ((⟨#[]⟩ : ByteArray), false)) else (if x4.length < 140737488355328 then (gZ.l0 k (x0.extract 1 x0.size) (x4 ++ [bt x0 0])) else (none))))) else (some ((⟨#[]⟩ : ByteArray), false))))) else (none)) else (none))
def gZ.j1 : Nat → List Int → ByteArray → Bool → Int → Bool → Bool → Option (ByteArray × Bool)
  | 0, _, _, _, _, _, _ => none
  | k + 1, x4, x7, x8, x9, b6, bW => if bW = true then (some ((⟨#[]⟩ : ByteArray), false)) else (if x4.length < 140737488355328 then (gZ.l0 k x7 (x4 ++ [x9])) else (none))
end
def gZ.f (k : Nat) (a0 : ByteArray) : Option (ByteArray × Bool) := gZ.l0 k a0 (([] : List Int))
theorem gZ.iQ : ∀ k, (∀ y0 y1, LeO (gZ.l0 k y0 y1) (gZ.l0 (k + 1) y0 y1)) ∧ (∀ y0 y1 y2 y3 y4 y5, LeO (gZ.j1 k y0 y1 y2 y3 y4 y5) (gZ.j1 (k + 1) y0 y1 y2 y3 y4 y5))
  | 0 => ⟨fun _ _ r h => by simp [gZ.l0] at h, fun _ _ _ _ _ _ r h => by simp [gZ.j1] at h⟩
  | k + 1 => by
    obtain ⟨bQ, bR⟩ := gZ.iQ k
    refine ⟨?_, ?_⟩
    · intro y0 y1
      unfold gZ.l0
      repeat' (with_reducible first | exact bQ _ _ | exact bR _ _ _ _ _ _ | exact LeO.refl _ | exact LeO.none _ | refine LeO.ite ?_ ?_ | refine LeO.bind ?_ (fun _ => ?_))
    · intro y0 y1 y2 y3 y4 y5
      unfold gZ.j1
      repeat' (with_reducible first | exact bQ _ _ | exact bR _ _ _ _ _ _ | exact LeO.refl _ | exact LeO.none _ | refine LeO.ite ?_ ?_ | refine LeO.bind ?_ (fun _ => ?_))
theorem gZ.mono : ∀ a0 k, LeO (gZ.f k a0) (gZ.f (k + 1) a0) := by
  intro a0 k
  obtain ⟨bQ, bR⟩ := gZ.iQ k
  unfold gZ.f
  repeat' (with_reducible first | exact bQ _ _ | exact bR _ _ _ _ _ _ | exact LeO.refl _ | exact LeO.none _ | refine LeO.ite ?_ ?_ | refine LeO.bind ?_ (fun _ => ?_))
theorem gZ.calls (k : Nat) (a0 : ByteArray) (r1 : ByteArray) (r2 : Bool) (w : World) (hM : ML w) (h : gZ.f k a0 = some (r1, r2)) :
    Calls Tryz.prog 57 #[.string a0] w fun e w' => e = .returned (.tuple #[.string r1, .bool r2]) ∧ Below w.heap.size w w' := by
 have HB := a_ (Below.refl w.heap.size w); have H : (gZ.l0 k a0 (([] : List Int))) = some (r1, r2) := h; clear h; obtain ⟨bm, hy_⟩ : ∃ y_ : List Int, y_ = (([] : List Int)) := ⟨_, rfl⟩; replace H : (gZ.l0 k a0 bm) = some (r1, r2) := z0_; have bc := a_ hy_; clear hy_; have H' := a_ H; clear H; go_enter Tryz.func57, Tryz.ntmps57
 go_wp2_with (first | ((with_reducible refine iW (N := 11) rfl ?_); refine Kd.oP (Kd.int .u8) _ 5 ?hg (N := 11) ?hd (xs := ([] : List Int)) (inner := []) (ok := fun _ => True) (okp := fun _ => True) ?hr ?hp (fun _ hk => hk) trivial (Below.refl _ _) (Nat.le_refl _) lI ?_; (case hd => rfl); (case hg => rfl); (case hr => first | (go_simp; done) | (go_simp; rfl)); (case hp => exact (iV.none _ _)); intro bX w2 bn hb hg_ hnew_; clear hg_ hnew_; (first | rw [← bc.out] at bn | (simp only [Int.reduceToNat] at bn; rw [← bc.out] at bn)); have n_ := s2_ (Kd.jQ bn (fV y0_)) (fZ y0_ hb); clear HB; obtain ⟨bo, HB⟩ := n_; clear hb bn))
 go_loopg [0, 4] k (fun kq v0 v4 w' => ∃ (ac : ByteArray) (ah : List Int), v0 = .string ac ∧ fD (gZ.l0 kq ac ah = some (r1, r2)) ∧ fD (kq ≤ k) ∧ fD (Kd.R (Kd.int .u8) 5 w' w.heap.size (fun _ => True) v4 ah) ∧ fD (Below w.heap.size w w'))
 case atStart => exact ⟨(a0), (bm), y3_, H', ⟨Nat.le_refl _⟩, ⟨by (with_reducible repeat (first | apply Kd.iq | apply Kd.gY | apply Kd.iE)); exact bo.out⟩, ⟨y0_⟩⟩
 case round =>
  clear H'; obtain ⟨ac, ah, rfl, HA, HK1, HO_4, HB⟩ := hrel; cases gk with
  | zero => exact absurd HA.out (by simp [gZ.l0])
  | succ k1 =>
   have H := HA.out; clear HA; simp only [gZ.l0] at H; replace H := ie_ H; obtain ⟨az, aA, -, H⟩ | ⟨az, aA, bp, H⟩ := H; replace H := j2_ H; obtain ⟨rfl, rfl⟩ := H; have hcv5 := ww (P := Tryz.prog) Tryz.underlying22 Tryz.underlying5 Tryz.underlying9 (Kd.zy HO_4.out); have bg := t_; rotate_left; replace H := kd_ H; obtain ⟨bq, bV, H⟩ := H; have br : decide (0 < ac.size) = true := decide_eq_true jv; clear bV; replace H := kq_ H; obtain ⟨bs, bu, -, H⟩ := H; replace H := ie_ H; obtain ⟨bd, be, -, H⟩ | ⟨bd, be, bY, H⟩ := H; replace H := bd_ H; obtain ⟨⟨aY, ao, aZ⟩, bZ, H⟩ := H; replace H : ((nZ.f aY).bind fun ag => (if aZ = true then (gZ.j1 k1 ah ao true ag.1 ag.2 (!ag.2)) else (gZ.j1 k1 ah ao false ag.1 ag.2 true))) = some (r1, r2) := H; replace H := bd_ H; obtain ⟨⟨au, av⟩, b0, H⟩ := H; replace H : (if aZ = true then (gZ.j1 k1 ah ao true au av (!av)) else (gZ.j1 k1 ah ao false au av true)) = some (r1, r2) := H; have bh := a_ H; clear H; obtain ⟨am, a1⟩ := t2_; rotate_left; replace H := bd_ H; obtain ⟨b1, b2, H⟩ := H; by_cases a2 : b1 = true; subst a2; rw [if_pos rfl] at H; replace H := ie_ H; obtain ⟨bv, bw, -, H⟩ | ⟨bv, bw, b7, H⟩ := H; replace H := j2_ H; obtain ⟨rfl, rfl⟩ := H; obtain ⟨am, ap, aC⟩ := t3_; rotate_left; replace H := ie_ H; obtain ⟨bx, bz, -, H⟩ | ⟨bx, bz, b8, H⟩ := H
   replace H := j2_ H; obtain ⟨rfl, rfl⟩ := H; obtain ⟨am, ap, aC⟩ := t3_; rotate_left; replace H := ie_ H; obtain ⟨bA, bB, -, H⟩ | ⟨bA, bB, b9, H⟩ := H; replace H := j2_ H; obtain ⟨rfl, rfl⟩ := H; obtain ⟨am, ap, aC⟩ := t3_; rotate_left; replace H := kl_ H; obtain ⟨bC, H⟩ := H; obtain ⟨bD, hy_⟩ : ∃ y_ : List Int, y_ = (ah ++ [bt ac 0]) := ⟨_, rfl⟩; replace H : (gZ.l0 k1 (ac.extract 1 ac.size) bD) = some (r1, r2) := z0_; have bE := a_ hy_; clear hy_; have H' := a_ H; clear H; obtain ⟨am, ap, bi⟩ := t3_; rotate_left
   replace a2 := Bool.eq_false_iff.mpr a2; subst a2; rw [if_neg (show ¬ (false = true) by decide)] at H; replace H := j2_ H; obtain ⟨rfl, rfl⟩ := H; obtain ⟨am, ap, aC⟩ := t3_; rotate_left
   all_goals (
    try(
      clear bg; go_wp2
      go_ret2
      exact ⟨y6_, y0_⟩)
    try(clear am; have aK : 0 ≤ (0 : Int) := jv; have aq : 0 < ac.size := (by have : (0 : Int) < (ac.size : Int) := of_decide_eq_true y1_; omega); have bj : ∀ h : 0 < ac.size, ((ac[0]'h).toNat : Int) = bt ac 0 := lL ac 0; clear aK; have aD : (0 < (ac.size : Int)) = True := eq_true (of_decide_eq_true y1_); replace aq := eq_true aq)
    try(
      clear a1; go_upto_region 8 with (first | ((with_reducible refine gm (f := 56) rfl ?_); refine gc_ 56 22 Tryz.func56 #[.string (ac.extract 1 ac.size), .string (⟨#[59]⟩ : ByteArray)] ?_; (with_reducible refine (strings_Cut.calls (ac.extract 1 ac.size) (⟨#[59]⟩ : ByteArray) aY ao aZ _ ?sideM bZ.out).mono ?_); (case sideM => first | (with_reducible exact hM) | (exact pJ hM y0_) | (repeat (first | exact hM | refine qZ ?_ _ | refine tH ?_ | refine rq ?_ _))); rintro e w' ⟨rfl, ⟨nd, rfl⟩⟩; refine ⟨_, rfl, ?_⟩) | ((with_reducible refine gm (f := 67) rfl ?_); refine gc_ 67 28 Tryz.func67 #[.string aY] ?_; (with_reducible refine (nZ.calls aY au av _ ?sideM b0.out).mono ?_); (case sideM => first | (with_reducible exact hM) | (exact pJ hM y0_) | (repeat (first | exact hM | refine qZ ?_ _ | refine tH ?_ | refine rq ?_ _))); rintro e bF ⟨rfl, hb⟩; refine ⟨_, rfl, ?_⟩; have n_ := s2_ (Kd.jY Ih hb) (fZ y0_ hb); clear HO_4 HB; obtain ⟨HO_4, HB⟩ := n_; (try clear hb); (try clear hb9768323); (try clear hk); (try clear hi)))
      (try simp only [Act.put, List.setIfInBounds_toArray, List.set_cons_zero, List.set_cons_succ]); go_cut [8, 10, 36] (fun aM aN aQ wc => ∃ (kq : Nat) (aR : Bool) (aw : Bool) (an : Bool), aM = .bool aR ∧ aN = .bool aw ∧ aQ = .bool an ∧ fD (gZ.j1 kq ah ao aR au aw an = some (r1, r2)) ∧ fD (kq ≤ k1) ∧ fD (Kd.R (Kd.int .u8) 5 wc w.heap.size (fun _ => True) u4 ah) ∧ fD (Below w.heap.size w wc))
      case first =>
       have H := bh.out; clear bh; by_cases aX : aZ = true
       ·subst aX; rw [if_pos rfl] at H; have H' := a_ H; clear H; go_wp2
        go_meet
        case rel => exact ⟨_, (true), (av), (!av), y3_, y3_, y3_, H', ⟨by have := HK1.out; first | omega | exact Nat.le_refl _⟩, ⟨Ih⟩, ⟨y0_⟩⟩
       ·replace aX := Bool.eq_false_iff.mpr aX; subst aX; rw [if_neg (show ¬ (false = true) by decide)] at H; have H' := a_ H; clear H; go_wp2
        go_meet
        case rel => exact ⟨_, (false), (av), (true), y3_, y3_, y3_, H', ⟨by have := HK1.out; first | omega | exact Nat.le_refl _⟩, ⟨Ih⟩, ⟨y0_⟩⟩
      case rest =>
       clear bh; (try clear bp); (try clear az); (try clear aA); (try clear hcv5); (try clear bV); (try clear bq); (try clear br); (try clear aD); (try clear ca); (try clear bs); (try clear bu); (try clear bY); (try clear bd); (try clear be); obtain ⟨kq, aR, aw, an, rfl, rfl, rfl, HA, bG, HO_4, HB⟩ := hcut; cases kq with
       | zero => exact absurd HA.out (by simp [gZ.j1])
       | succ bH =>
        have H := HA.out; clear HA; simp only [gZ.j1] at H; by_cases aX : an = true
        ·subst aX; rw [if_pos rfl] at H; replace H := j2_ H; obtain ⟨rfl, rfl⟩ := H; go_wp2
         go_ret2
         exact ⟨y6_, y0_⟩
        ·replace aX := Bool.eq_false_iff.mpr aX; subst aX; rw [if_neg (show ¬ (false = true) by decide)] at H; by_cases a2 : ah.length < 140737488355328
         ·rw [if_pos a2] at H; have bI := a_ a2; clear a2; obtain ⟨ar, hy_⟩ : ∃ y_ : List Int, y_ = (ah ++ [au]) := ⟨_, rfl⟩; replace H : (gZ.l0 bH ao ar) = some (r1, r2) := z0_; have aE := a_ hy_; clear hy_; have H' := a_ H; clear H; go_wp2_with (first | ((with_reducible refine ni (b := .append) (xs := #[.tmp 37, .tmp 39]) rfl ?_); at_builtin; refine Kd.pY (Kd.int .u8) (w0 := w) w.heap.size rfl (.tmp 37) (.tmp 39) 22 5 (.int .u8 0) 1 rfl Tryz.underlying22 info5 rfl iO jv u4 ah au [.int .u8 au] (fun _ => True) (fun _ => False) rfl rfl ?aP (fun _ hk => hk.elim) ?aF ?aO ?aB ?aS ?aL ?_; (case aP => exact rfl); (case aB => exact y0_); (case aF => exact (fun _ _ => trivial)); (case aO => exact Ih); (case aS => exact (fV y0_)); (case aL => have := bI.out; omega); intro bJ bK ho hb hg hat; rw [← aE.out] at ho; have n_ := s2_ hb ho; clear HB HO_4; obtain ⟨HB, aG⟩ := n_; clear ho hb hg hat))
          go_roundg bH
          case measure => have := HK1.out; have := bG.out; omega
          case rel => exact ⟨(ao), (ar), y3_, H', ⟨by have := HK1.out; have := bG.out; omega⟩, ⟨by (with_reducible repeat (first | apply Kd.iq | apply Kd.gY | apply Kd.iE)); exact aG.out⟩, ⟨y0_⟩⟩
         ·rw [if_neg a2] at H; exact absurd H lI)
    try(clear ap; go_wp2_with (first | ((with_reducible refine gm (f := 62) rfl ?_); refine gc_ 62 43 Tryz.func62 #[.int .u8 (bt ac 0)] ?_; (with_reducible refine (l7.calls (bt ac 0) _ _ b2.out).mono ?_); rintro e w' ⟨rfl, ⟨nd, rfl⟩⟩; refine ⟨_, rfl, ?_⟩) | ((with_reducible refine ni (b := .append) (xs := #[.tmp 57, .tmp 59]) rfl ?_); at_builtin; refine Kd.pY (Kd.int .u8) (w0 := w) w.heap.size rfl (.tmp 57) (.tmp 59) 22 5 (.int .u8 0) 1 rfl Tryz.underlying22 info5 rfl iO jv u4 ah (bt ac 0) [.int .u8 (bt ac 0)] (fun _ => True) (fun _ => False) rfl rfl ?aP (fun _ hk => hk.elim) ?aF ?aO ?aB ?aS ?aL ?_; (case aP => exact rfl); (case aB => exact y0_); (case aF => exact (fun _ _ => trivial)); (case aO => exact Ih); (case aS => exact (fV y0_)); (case aL => have := bC.out; omega); intro bL bM ho hb hg hat; rw [← bE.out] at ho; have n_ := s2_ hb ho; clear HB HO_4; obtain ⟨HB, aH⟩ := n_; clear ho hb hg hat)))
    try(
      clear aC; go_ret2
      exact ⟨y6_, y0_⟩)
    try(
      clear bi; go_roundg k1
      case measure => have := HK1.out; omega
      case rel => exact ⟨(ac.extract 1 ac.size), (bD), y3_, H', ⟨pq⟩, ⟨by (with_reducible repeat (first | apply Kd.iq | apply Kd.gY | apply Kd.iE)); exact aH.out⟩, ⟨y0_⟩⟩))

/-! ### jX: function 33 -/
def jX.f (k : Nat) (a0 : ByteArray) : Option (Int × ByteArray) := if (a0.size : Int) > 400 then (some (2, (⟨#[]⟩ : ByteArray))) else ((gZ.f k a0).bind fun ai => ((iH.f (!ai.2) 5).bind fun aT => ((iH.f (decide ((ai.1.size : Int) > 40)) 2).bind fun aU => ((fP.f k (([aT, aU] : List Int))).bind fun aj => (if aj = 0 then (some (0, ai.1)) else (some (aj, (⟨#[]⟩ : ByteArray))))))))
theorem jX.mono : ∀ a0 k, LeO (jX.f k a0) (jX.f (k + 1) a0) := by
  intro a0 k
  unfold jX.f
  repeat' (with_reducible first | exact fP.mono _ _ | exact gZ.mono _ _ | exact LeO.refl _ | exact LeO.none _ | refine LeO.ite ?_ ?_ | refine LeO.bind ?_ (fun _ => ?_))
theorem jX.calls (k : Nat) (a0 : ByteArray) (r1 : Int) (r2 : ByteArray) (w : World) (hM : ML w) (h : jX.f k a0 = some (r1, r2)) :
    Calls Tryz.prog 33 #[.string a0] w fun e w' => e = .returned (.agg #[.int .i64 r1, .string r2]) ∧ Below w.heap.size w w' := by
 have hu35 := Tryz.underlying35; have HB := a_ (Below.refl w.heap.size w); have H : (if (a0.size : Int) > 400 then (some (2, (⟨#[]⟩ : ByteArray))) else ((gZ.f k a0).bind fun ai => ((iH.f (!ai.2) 5).bind fun aT => ((iH.f (decide ((ai.1.size : Int) > 40)) 2).bind fun aU => ((fP.f k (([aT, aU] : List Int))).bind fun aj => (if aj = 0 then (some (0, ai.1)) else (some (aj, (⟨#[]⟩ : ByteArray))))))))) = some (r1, r2) := h; clear h; replace H := qU H; obtain ⟨az, bp, H⟩ | ⟨az, bp, H⟩ := H; have aA : decide (400 < a0.size) = true := decide_eq_true jv; clear bp; replace H := j2_ H; obtain ⟨rfl, rfl⟩ := H; obtain ⟨bg, aC⟩ := t2_; rotate_left; have aA : decide (400 < a0.size) = false := decide_eq_false jv; clear bp; replace H := bd_ H; obtain ⟨⟨ax, a3⟩, A5, H⟩ := H; replace H : ((iH.f (!a3) 5).bind fun aT => ((iH.f (decide ((ax.size : Int) > 40)) 2).bind fun aU => ((fP.f k (([aT, aU] : List Int))).bind fun aj => (if aj = 0 then (some (0, ax)) else (some (aj, (⟨#[]⟩ : ByteArray))))))) = some (r1, r2) := H; replace H := bd_ H; obtain ⟨bk, b3, H⟩ := H; replace H := bd_ H; obtain ⟨bl, b4, H⟩ := H; obtain ⟨aV, hy_⟩ : ∃ y_ : List Int, y_ = (([bk, bl] : List Int)) := ⟨_, rfl⟩; replace H : ((fP.f k aV).bind fun aj => (if aj = 0 then (some (0, ax)) else (some (aj, (⟨#[]⟩ : ByteArray))))) = some (r1, r2) := z0_; have bf := a_ hy_; clear hy_; replace H := bd_ H; obtain ⟨bT, b5, H⟩ := H; replace H := ie_ H; obtain ⟨bN, bO, -, H⟩ | ⟨bN, bO, aX, H⟩ := H; replace H := j2_ H; obtain ⟨rfl, rfl⟩ := H; obtain ⟨am, a1, ap, bi⟩ := t4_; rotate_left; replace H := j2_ H; obtain ⟨rfl, rfl⟩ := H; obtain ⟨am, a1, ap, bU⟩ := t4_; rotate_left
 all_goals (
  go_enter Tryz.func33, Tryz.ntmps33
  go_wp2_with (first | (have mkq_ := bg; clear mkq_; (with_reducible refine iW (N := 2) rfl ?_); refine jF zr_ (N := 2) zr_ (cs := #[.int .i64 0, .string (⟨#[]⟩ : ByteArray)]) (t := 35) zs_ ?_; intro aa hg aW hbox hb; have n_ := s4_ (fZ y0_ hb) hbox ((by rw [hg]; exact (fV y0_) : w.heap.size ≤ aa)) ((by rw [hg]; exact (fV y0_) : w.heap.size ≤ aa)); clear HB; obtain ⟨HB, BK9692650, aI, GE9692650⟩ := n_; clear hb hbox hg; obtain ⟨a4, a5, a6, a7⟩ := pO BK9692650.out) | (have mkq_ := am; clear mkq_; (with_reducible refine iW (N := 2) rfl ?_); refine jF zr_ (N := 2) zr_ (cs := #[.int .i64 0, .string (⟨#[]⟩ : ByteArray)]) (t := 35) zs_ ?_; intro aa hg aW hbox hb; have n_ := s4_ (fZ y0_ hb) hbox ((by rw [hg]; exact (fV y0_) : w.heap.size ≤ aa)) ((by rw [hg]; exact (fV y0_) : w.heap.size ≤ aa)); clear HB; obtain ⟨HB, BK9692650, aI, GE9692650⟩ := n_; clear hb hbox hg) | ((with_reducible refine gm (f := 57) rfl ?_); refine gc_ 57 12 Tryz.func57 #[.string a0] ?_; (with_reducible refine (gZ.calls k a0 ax a3 _ ?sideM A5.out).mono ?_); (case sideM => first | (with_reducible exact hM) | (exact pJ hM CW) | (repeat (first | exact hM | refine qZ ?_ _ | refine tH ?_ | refine rq ?_ _))); rintro e ab ⟨rfl, hb⟩; refine ⟨_, rfl, ?_⟩; have n_ := s2_ (gK (g := aa) (o := .cells #[.int .i64 0, .string (⟨#[]⟩ : ByteArray)] 35 (0, 0)) Hf hb) (fZ CW hb); clear BK9692650 HB; obtain ⟨BK9692650, HB⟩ := n_; (try clear hb); (try clear hb9189714); (try clear hk); (try clear hi)) | (have mkq_ := a1; clear mkq_; (with_reducible refine gm (f := 20) rfl ?_); refine gc_ 20 17 Tryz.func20 #[.bool (!a3), .int .i64 5] ?_; (with_reducible refine (iH.calls (!a3) 5 bk _ b3.out).mono ?_); rintro e w' ⟨rfl, ⟨nd, rfl⟩⟩; refine ⟨_, rfl, ?_⟩; (try (rw [lH ab]; generalize hq_ : World.drewN ab _ = ab; have n0_ : fD (ab.heap[aa]? = some (.cells #[.int .i64 0, .string (⟨#[]⟩ : ByteArray)] 35 (0, 0))) := ⟨by rw [← hq_]; exact Hf⟩; have n1_ : fD (Below w.heap.size w ab) := ⟨by rw [← hq_]; exact CW⟩; clear BK9692650 HB hq_; have BK9692650 := n0_; have HB := n1_; clear n0_ n1_))) | (have mkq_ := ap; clear mkq_; (with_reducible refine gm (f := 20) rfl ?_); refine gc_ 20 21 Tryz.func20 #[.bool (decide ((ax.size : Int) > 40)), .int .i64 2] ?_; (with_reducible refine (iH.calls (decide ((ax.size : Int) > 40)) 2 bl _ b4.out).mono ?_); rintro e w' ⟨rfl, ⟨nd, rfl⟩⟩; refine ⟨_, rfl, ?_⟩; (try (rw [lH ab]; generalize hq_ : World.drewN ab _ = ab; have n0_ : fD (ab.heap[aa]? = some (.cells #[.int .i64 0, .string (⟨#[]⟩ : ByteArray)] 35 (0, 0))) := ⟨by rw [← hq_]; exact Hf⟩; have n1_ : fD (Below w.heap.size w ab) := ⟨by rw [← hq_]; exact CW⟩; clear BK9692650 HB hq_; have BK9692650 := n0_; have HB := n1_; clear n0_ n1_))) | ((with_reducible refine iW (N := 22) rfl ?_); refine Kd.oP (Kd.int .i64) _ 2 ?hg (N := 22) ?hd (xs := ([bk, bl] : List Int)) (inner := [.int .i64 bk, .int .i64 bl]) (ok := fun _ => True) (okp := fun _ => True) ?hr ?hp (fun _ hk => hk) trivial (Below.refl _ _) (Nat.le_refl _) lI ?_; (case hd => rfl); (case hg => rfl); (case hr => first | (go_simp; done) | (go_simp; rfl)); (case hp => exact (iV.one (show Kd.M (Kd.int .i64) _ _ _ bk [.int .i64 bk] from rfl) (iV.one (show Kd.M (Kd.int .i64) _ _ _ bl [.int .i64 bl] from rfl) (iV.none _ _)))); intro bP ae af hb hg_ hnew_; clear hg_ hnew_; (first | rw [← bf.out] at af | (simp only [Int.reduceToNat] at af; rw [← bf.out] at af)); have n_ := s3_ (Kd.jQ af (fV CW)) (gK (g := aa) (o := .cells #[.int .i64 0, .string (⟨#[]⟩ : ByteArray)] 35 (0, 0)) Hf hb) (fZ CW hb); clear BK9692650 HB; obtain ⟨ad, BK9692650, HB⟩ := n_; clear hb af; obtain ⟨ak, al, aJ⟩ := Kd.jc ad.out; subst aJ) | ((with_reducible refine gm (f := 17) rfl ?_); refine gc_ 17 23 Tryz.func17 #[.slice ak aV.length al] ?_; (with_reducible refine (fP.calls k _ _ aV bT _ ?side1 ?side2 b5.out).mono ?_); (case side1 => repeat (first | exact (Kd.iL ad.out).2.2 | (with_reducible refine Kd.jh ?_ _) | (with_reducible refine Kd.jk ?_ _) | (with_reducible refine Kd.jK ?_))); (case side2 => exact (Kd.iL ad.out).2.1); rintro e w' ⟨rfl, ⟨nd, rfl⟩⟩; refine ⟨_, rfl, ?_⟩; (try (rw [lH ae]; generalize hq_ : World.drewN ae _ = ae; have n0_ : fD (Kd.R (Kd.int .i64) 2 ae w.heap.size (fun _ => True) (.slice ak aV.length al) aV) := ⟨by rw [← hq_]; exact (by (with_reducible repeat (first | apply Kd.iq | apply Kd.gY | apply Kd.iE)); exact ad.out)⟩; have n1_ : fD (ae.heap[aa]? = some (.cells #[.int .i64 0, .string (⟨#[]⟩ : ByteArray)] 35 (0, 0))) := ⟨by rw [← hq_]; exact Hf⟩; have n2_ : fD (Below w.heap.size w ae) := ⟨by rw [← hq_]; exact CW⟩; clear ad BK9692650 HB hq_; have ad := n0_; have BK9692650 := n1_; have HB := n2_; clear n0_ n1_ n2_)); obtain ⟨a8, a9, ba, bb⟩ := pO BK9692650.out))
  try(clear aC; refine bodyPost_ret (results_cell_row rfl _ _ aa 35 #[.int .i64 2, .string (⟨#[]⟩ : ByteArray)] (0, 0) _ rfl (by (with_reducible repeat (first | refine fC ?_ _ | refine fH ?_ | refine fE ?_ _)); refine iJ (cs := #[.int .i64 2, .string (⟨#[]⟩ : ByteArray)]) ?_ 1 _ rfl; (with_reducible repeat (first | refine fC ?_ _ | refine fH ?_ | refine fE ?_ _)); refine iJ (cs := #[.int .i64 0, .string (⟨#[]⟩ : ByteArray)]) ?_ 0 _ rfl; (with_reducible repeat (first | refine fC ?_ _ | refine fH ?_ | refine fE ?_ _)); exact BK9692650.out) Tryz.underlying35 rfl iY) rfl ?_)
  try(clear bi; refine bodyPost_ret (results_cell_row rfl _ _ aa 35 #[.int .i64 0, .string ax] (0, 0) _ rfl (by (with_reducible repeat (first | refine fC ?_ _ | refine fH ?_ | refine fE ?_ _)); refine iJ (cs := #[.int .i64 0, .string (⟨#[]⟩ : ByteArray)]) ?_ 1 _ rfl; (with_reducible repeat (first | refine fC ?_ _ | refine fH ?_ | refine fE ?_ _)); refine iJ (cs := #[.int .i64 0, .string (⟨#[]⟩ : ByteArray)]) ?_ 0 _ rfl; (with_reducible repeat (first | refine fC ?_ _ | refine fH ?_ | refine fE ?_ _)); exact BK9692650.out) Tryz.underlying35 rfl iY) rfl ?_)
  try(clear bU; refine bodyPost_ret (results_cell_row rfl _ _ aa 35 #[.int .i64 bT, .string (⟨#[]⟩ : ByteArray)] (0, 0) _ rfl (by (with_reducible repeat (first | refine fC ?_ _ | refine fH ?_ | refine fE ?_ _)); refine iJ (cs := #[.int .i64 bT, .string (⟨#[]⟩ : ByteArray)]) ?_ 1 _ rfl; (with_reducible repeat (first | refine fC ?_ _ | refine fH ?_ | refine fE ?_ _)); refine iJ (cs := #[.int .i64 0, .string (⟨#[]⟩ : ByteArray)]) ?_ 0 _ rfl; (with_reducible repeat (first | refine fC ?_ _ | refine fH ?_ | refine fE ?_ _)); exact BK9692650.out) Tryz.underlying35 rfl iY) rfl ?_)
  exact ⟨y6_, CW⟩)

-- by hand: function 11 (kE)

end Go.Proofs.YtbibioffldkanaaGreatDoor.K
