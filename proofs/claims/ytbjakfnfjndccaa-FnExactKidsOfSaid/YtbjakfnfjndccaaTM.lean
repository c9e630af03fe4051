/- The laws' mark functions: what they answer; and that they turn no blocks but those of the rows that they are given. No condition. -/
import Derived.Test.YtbjakfnfjndccaaProg
import Derived.Below
import Derived.Deep.Draws
import Derived.Deep.AppendLies
import Derived.Maps.AppendAt
import Derived.OwnWalk
import Derived.Laws.BytesArg
import Derived.Laws.MakeOwn
import Derived.Laws.OwnMore
import Derived.Deep.OwnRows
import Derived.Tactics
import Derived.Lib.ConvBytes
import Derived.Laws.Slices
import Derived.WalkKit
import Derived.KernelRfl
import Derived.RowKit3
import Derived.Deep.LoopGhost
import Derived.Deep.QuietTactic
import Derived.BigQuiet
import Derived.WideLaws
import Derived.Deep.DeepCutAuto
import Derived.Deep.CutBlock
import Derived.Deep.RegionHeld3
import Derived.Laws.Rows
import Derived.Lib.AppendStr
import Derived.ArgAppend
import Derived.Laws.IdiomCopy
import Derived.OrdersHeld
import Derived.Laws.BitsLemmas
import Derived.RowKit
import Derived.Test.YtbjakfnfjndccaaXWords
import Derived.Test.YtbjakfnfjndccaaWWords
import Derived.Test.YtbjakfnfjndccaaWLast
import Derived.Test.YtbjakfnfjndccaaWTab
import Derived.Test.YtbjakfnfjndccaaWFour
import Derived.Test.YtbjakfnfjndccaaWQPut
import Derived.Test.YtbjakfnfjndccaaWApart
import Derived.Test.YtbjakfnfjndccaaWArr
import Derived.Test.YtbjakfnfjndccaaWZeros
import Derived.Test.YtbjakfnfjndccaaWFoot
import Derived.Test.YtbjakfnfjndccaaWKept
import Derived.Test.YtbjakfnfjndccaaWShare
import Derived.Test.YtbjakfnfjndccaaWN
import Derived.Test.YtbjakfnfjndccaaWFootNe
import Derived.Test.YtbjakfnfjndccaaWAt
import Derived.Test.YtbjakfnfjndccaaWEqStruct
import Derived.Test.YtbjakfnfjndccaaWRepsOne
import Derived.Test.YtbjakfnfjndccaaWInv
import Derived.Test.YtbjakfnfjndccaaWInvWords
import Derived.Test.YtbjakfnfjndccaaWGuard
import Derived.Test.YtbjakfnfjndccaaWNEv
import Derived.Test.YtbjakfnfjndccaaWMore
import Derived.Test.YtbjakfnfjndccaaXMark
import Derived.Test.YtbjakfnfjndccaaT0
namespace Go.Proofs.Ytbjakfnfjndccaa.T
open Go.RowKit Go.Proofs.YtbjakfnfjndccaaW.PrintWords Go.Proofs.YtbjakfnfjndccaaW.PrintLast Go.Proofs.YtbjakfnfjndccaaW.PrintMore
attribute [local go_sem] Instr.field asAgg
attribute [local go_sem] max2_int min2_int max_two min_two max_three min_three max_four min_four   -- for this text's walks alone
set_option linter.unusedVariables false
set_option linter.unusedSimpArgs false
/-! ### laws_markText: function 38 -/
def laws_markText.l0 : Nat → Int → ByteArray → Option (ByteArray)
  | 0, _, _ => none
  | k + 1, x0, x3 => if x0 > 0 then ((some (([(wrap64 (48 + (Int.tmod x0 10))) % 256] : List Int) : List Int)).bind fun y367 => (if (strOfNums y367).size + x3.size ≤ 9223372036854775807 then (laws_markText.l0 k (wrap64 (Int.tdiv x0 10)) ((strOfNums y367) ++ x3)) else (none))) else (if 1 + x3.size ≤ 9223372036854775807 then (some ((⟨#[109]⟩ : ByteArray) ++ x3)) else (none))
def laws_markText.f (k : Nat) (a0 : Int) : Option (ByteArray) := if a0 ≤ 0 then (some (⟨#[109, 48]⟩ : ByteArray)) else (laws_markText.l0 k a0 (⟨#[]⟩ : ByteArray))
theorem laws_markText.mono_l : ∀ k, (∀ y0 y1, LeO (laws_markText.l0 k y0 y1) (laws_markText.l0 (k + 1) y0 y1))
  | 0 => fun _ _ r h => by simp [laws_markText.l0] at h
  | k + 1 => by
    have ih0 := laws_markText.mono_l k
    · intro y0 y1
      unfold laws_markText.l0
      repeat' first
      | (with_reducible exact ih0 _ _)
      | (with_reducible exact LeO.refl _)
      | (with_reducible exact LeO.none _)
      | (with_reducible refine LeO.ite ?_ ?_)
      | (with_reducible refine LeO.bind ?_ (fun _ => ?_))
      | exact ih0 _ _
      | exact LeO.none _
      | refine LeO.ite ?_ ?_
      | refine LeO.bind ?_ (fun _ => ?_)
theorem laws_markText.mono : ∀ a0 k, LeO (laws_markText.f k a0) (laws_markText.f (k + 1) a0) := by
  intro a0 k
  have ih0 := laws_markText.mono_l k
  unfold laws_markText.f
  repeat' first
      | (with_reducible exact ih0 _ _)
      | (with_reducible exact LeO.refl _)
      | (with_reducible exact LeO.none _)
      | (with_reducible refine LeO.ite ?_ ?_)
      | (with_reducible refine LeO.bind ?_ (fun _ => ?_))
      | exact ih0 _ _
      | exact LeO.none _
      | refine LeO.ite ?_ ?_
      | refine LeO.bind ?_ (fun _ => ?_)
set_option maxHeartbeats 8000000 in
set_option maxRecDepth 100000 in
theorem laws_markText.calls (k : Nat) (a0 : Int) (r : ByteArray) (w : World) (h : laws_markText.f k a0 = some r) :
    Calls Try.prog 38 #[.int .i64 a0] w fun e w' => e = .returned (.string r) ∧ Below w.heap.size w w' := by
  have HB := Aside0.mk (Below.refl w.heap.size w)
  have H : (if a0 ≤ 0 then (some (⟨#[109, 48]⟩ : ByteArray)) else (laws_markText.l0 k a0 (⟨#[]⟩ : ByteArray))) = some r := h
  clear h
  by_cases c2 : a0 ≤ 0
  · rw [if_pos c2] at H
    have c2b0 : decide (a0 ≤ 0) = true := decide_eq_true c2
    clear c2
    obtain rfl := Option.some.inj H
    go_enter Try.func38, Try.ntmps38
    go_wp2
    go_ret
    exact ⟨by first | rfl | (simp [errW_none, errW_some] <;> rfl) | (simp [*, errW_none, errW_some] <;> rfl), by repeat (first | (with_reducible first | exact HB.out | apply below_alloc | apply pw_below_drewN | apply below_drew1) | exact HB.out)⟩
  · rw [if_neg c2] at H
    have c2b0 : decide (a0 ≤ 0) = false := decide_eq_false c2
    clear c2
    have H' := Aside0.mk H
    clear H
    go_enter Try.func38, Try.ntmps38
    go_wp2
    go_loopg [0, 3] k (fun kq v0 v3 w' => ∃ (x0_1 : Int) (x3_1 : ByteArray), v0 = .int .i64 x0_1 ∧ v3 = .string x3_1 ∧ Aside0 (laws_markText.l0 kq x0_1 x3_1 = some r) ∧ Aside0 (kq ≤ k) ∧ Aside0 (Below w.heap.size w w'))
    case atStart => exact ⟨(a0), ((⟨#[]⟩ : ByteArray)), (by first | rfl | (simp; done) | (simp [*]; done)), (by first | rfl | (simp; done) | (simp [*]; done)), H', ⟨Nat.le_refl _⟩, ⟨by repeat (first | (with_reducible first | exact HB.out | apply below_alloc | apply pw_below_drewN | apply below_drew1) | exact HB.out)⟩⟩
    case round =>
      clear H'
      try clear c2
      try clear c2b0
      try clear p2
      obtain ⟨x0_1, x3_1, rfl, rfl, HA, HK1, HB⟩ := hrel
      cases gk with
      | zero => exact absurd HA.out (by simp [laws_markText.l0])
      | succ k1 =>
        have H := HA.out
        clear HA
        simp only [laws_markText.l0] at H
        by_cases c3 : x0_1 > 0
        · rw [if_pos c3] at H
          have c3b0 : decide (0 < x0_1) = true := decide_eq_true c3
          clear c3
          obtain ⟨y367, hy367⟩ : ∃ y_ : List Int, y_ = (([(wrap64 (48 + (Int.tmod x0_1 10))) % 256] : List Int)) := ⟨_, rfl⟩
          replace H : (if (strOfNums y367).size + x3_1.size ≤ 9223372036854775807 then (laws_markText.l0 k1 (wrap64 (Int.tdiv x0_1 10)) ((strOfNums y367) ++ x3_1)) else (none)) = some r := by first | (rw [hy367]; with_reducible exact H) | (have H2_ := (Option.bind_some _ _).symm.trans H; rw [hy367]; with_reducible exact H2_) | (have H2_ := (Option.bind_some _ _).symm.trans H; with_reducible exact H2_) | with_reducible exact H | (rw [hy367]; exact H) | exact H
          have Ny367 := Aside0.mk hy367
          clear hy367
          by_cases c4 : (strOfNums y367).size + x3_1.size ≤ 9223372036854775807
          · rw [if_pos c4] at H
            have c4b0 := eq_true c4
            have c4b1 : decide ((strOfNums y367).size + x3_1.size ≤ 9223372036854775807) = true := decide_eq_true c4
            try have c4b2 : (9223372036854775807 < (strOfNums y367).size + x3_1.size) = False := eq_false (Nat.not_lt.2 c4)
            have H' := Aside0.mk H
            clear H
            go_wp2_with (first | ((with_reducible refine gate_dst (N := 12) rfl ?_); refine Kd.R_lit (Kd.int .u8) _ 5 ?hg (N := 12) ?hd (xs := ([(wrap64 (48 + (Int.tmod x0_1 10))) % 256] : List Int)) (inner := [.int .u8 ((wrap64 (48 + (Int.tmod x0_1 10))) % 256)]) (ok := fun _ => True) (okp := fun _ => True) ?hr ?hp (fun _ hk => hk) trivial (Below.refl _ _) (Nat.le_refl _) (by simp) ?_; (case hd => rfl); (case hg => rfl); (case hr => first | (go_simp; done) | (go_simp; rfl)); (case hp => exact (Reps.one (show Kd.M (Kd.int .u8) _ _ _ ((wrap64 (48 + (Int.tmod x0_1 10))) % 256) [.int .u8 ((wrap64 (48 + (Int.tmod x0_1 10))) % 256)] from rfl) (Reps.none _ _))); intro v368 w5 ho6 hb hg_ hnew_; clear hg_ hnew_; (first | rw [← Ny367.out] at ho6 | (simp only [Int.reduceToNat] at ho6; rw [← Ny367.out] at ho6)); have n0_ := Aside0.mk (Kd.R_lower ho6 (below_size (by repeat (first | (with_reducible first | exact HB.out | apply below_alloc | apply pw_below_drewN | apply below_drew1) | exact HB.out)))); have n1_ := Aside0.mk (below_step (by repeat (first | (with_reducible first | exact HB.out | apply below_alloc | apply pw_below_drewN | apply below_drew1) | exact HB.out)) hb); clear HB; have HO369 := n0_; have HB := n1_; clear n0_ n1_; clear hb ho6; have hcv7 := own_string (P := Try.prog) Try.underlying82 Try.underlying5 Try.underlying9 (Kd.own_of_R HO369.out)))
            go_roundg k1
            case measure => have := HK1.out; omega
            case rel => exact ⟨(wrap64 (Int.tdiv x0_1 10)), ((strOfNums y367) ++ x3_1), (by first | rfl | (simp; done) | (simp [*]; done)), (by first | rfl | (simp; done) | (simp [*]; done)), H', ⟨by have := HK1.out; omega⟩, ⟨by repeat (first | (with_reducible first | exact HB.out | apply below_alloc | apply pw_below_drewN | apply below_drew1) | exact HB.out)⟩⟩
          · rw [if_neg c4] at H
            exact absurd H (by simp)
        · rw [if_neg c3] at H
          have c3b0 : decide (0 < x0_1) = false := decide_eq_false c3
          clear c3
          by_cases c8 : 1 + x3_1.size ≤ 9223372036854775807
          · rw [if_pos c8] at H
            have c8b0 := eq_true c8
            have c8b1 : decide (1 + x3_1.size ≤ 9223372036854775807) = true := decide_eq_true c8
            try have c8b2 : (9223372036854775807 < 1 + x3_1.size) = False := eq_false (Nat.not_lt.2 c8)
            obtain rfl := Option.some.inj H
            go_wp2
            go_ret
            exact ⟨by first | rfl | (simp [errW_none, errW_some] <;> rfl) | (simp [*, errW_none, errW_some] <;> rfl), by repeat (first | (with_reducible first | exact HB.out | apply below_alloc | apply pw_below_drewN | apply below_drew1) | exact HB.out)⟩
          · rw [if_neg c8] at H
            exact absurd H (by simp)


theorem laws_markText.l0_some : ∀ (m : Nat) (x : Int) (s : ByteArray), x ≤ 9223372036854775807 → x < 10 ^ m → s.size + m + 1 ≤ 1000000 → ∃ K t, laws_markText.l0 K x s = some t
  | 0, x, s, _, hx, hs => ⟨1, _, by rw [laws_markText.l0, if_neg (by simp at hx; omega), if_pos (by simp at hs; omega)]⟩
  | m + 1, x, s, hm, hx, hs => by
    by_cases h : x > 0
    · have ed : Int.tdiv x 10 = x / 10 := Int.tdiv_eq_ediv_of_nonneg (by omega)
      have ew : wrap64 (Int.tdiv x 10) = x / 10 := by rw [ed]; unfold wrap64; omega
      have h10 : x / 10 < 10 ^ m := by rw [Int.pow_succ] at hx; omega
      have hz : (strOfNums [(wrap64 (48 + (Int.tmod x 10))) % 256]).size = 1 := by simp [strOfNums, ByteArray.size]
      obtain ⟨K, t, ht⟩ := laws_markText.l0_some m (x / 10) (strOfNums [(wrap64 (48 + (Int.tmod x 10))) % 256] ++ s) (by omega) h10 (by rw [ByteArray.size_append, hz]; omega)
      refine ⟨K + 1, t, ?_⟩
      rw [laws_markText.l0, if_pos h]
      simp only [Option.bind_some]
      rw [if_pos (by rw [hz]; omega), ew]
      exact ht
    · exact ⟨1, _, by rw [laws_markText.l0, if_neg h, if_pos (by omega)]⟩
theorem laws_markText.some_ (a : Int) (ha : a ≤ 9223372036854775807) : ∃ K t, laws_markText.f K a = some t := by
  by_cases h : a ≤ 0
  · exact ⟨0, _, by unfold laws_markText.f; rw [if_pos h]⟩
  · obtain ⟨K, t, ht⟩ := laws_markText.l0_some 19 a ⟨#[]⟩ ha (by omega) (by decide)
    exact ⟨K, t, by unfold laws_markText.f; rw [if_neg h]; exact ht⟩
/-- How many marks a row takes. -/
def laws_markAttrS.many (l : List S78) : Nat := l.foldl (fun m x => m + (2)) 0
theorem laws_markAttrS.many_take (l : List S78) (j : Nat) (h : j < l.length) : laws_markAttrS.many (l.take (j + 1)) = laws_markAttrS.many (l.take j) + (2) := by
  unfold laws_markAttrS.many
  rw [List.take_succ_eq_append_getElem h, List.foldl_append]
  rfl
def laws_markAttrS.f (l : List S78) (k : Int) : Option Int := some (ups (laws_markAttrS.many l) k)
set_option maxHeartbeats 8000000 in
set_option maxRecDepth 100000 in
theorem laws_markAttrS.wr (k0 : Int) (hk0 : k0 ≤ 9223372036854775807) (u : Value) (l : List S78) (b0 : Nat) (w : World) (hw : WrI w b0 78 2 u l.length) : Calls Try.prog 39 #[u, .int .i64 k0] w fun e w' => e = .returned (.int .i64 (ups (laws_markAttrS.many l) k0)) ∧ Chg b0 [78] w w' := by
  obtain ⟨Au, cap, rfl, hcap, hmx, hAu⟩ := hw
  have hle : b0 ≤ w.heap.size ∨ l.length = 0 := by
    by_cases h0 : 0 < l.length
    · obtain ⟨g, cur, _, hb, hc, _⟩ := hAu h0
      exact .inl (Nat.le_of_lt (Nat.lt_of_le_of_lt hb (blk_lt hc)))
    · exact .inr (by omega)
  have HLE := Aside0.mk hle
  clear hle
  have HAu := Aside0.mk hAu
  have HMX := Aside0.mk hmx
  have HK0 := Aside0.mk hk0
  clear hAu hmx hcap hk0
  go_enter Try.func39, Try.ntmps39
  go_wp2
  go_loopg [1, 5] (l.length + 1) (fun kq v1 v5 w' => ∃ (x1 : Int) (x5 : Int), v1 = .int .i64 x1 ∧ v5 = .int .i64 x5 ∧ Aside0 (0 ≤ x5 ∧ x5 ≤ (l.length : Int)) ∧ Aside0 (kq + x5.toNat = l.length + 1) ∧ Aside0 (x1 = ups (laws_markAttrS.many (l.take x5.toNat)) k0) ∧ Aside0 (Chg b0 [78] w w') ∧ Aside0 (∀ g, Au = some ⟨g, 0, none⟩ → Outer g 2 [] w w'))
  case atStart => exact ⟨k0, 0, rfl, rfl, ⟨by omega⟩, ⟨rfl⟩, ⟨by simp [laws_markAttrS.many, ups]⟩, ⟨Chg.refl _ _ _⟩, ⟨fun _ _ => Outer.refl _ _ _ _⟩⟩
  case round =>
    obtain ⟨x1, x5, rfl, rfl, HX, HQ, H1, HC, HU⟩ := hrel
    by_cases c : x5 < (l.length : Int)
    · have c3b0 : decide (x5 < (l.length : Int)) = true := decide_eq_true c
      have c4b0 : decide (0 ≤ x5) = true := decide_eq_true HX.out.1
      have hj : x5.toNat < l.length := by have := HX.out; omega
      obtain ⟨g, cur, hAg, hb0, hg, hs⟩ := HAu.out (by omega)
      subst hAg
      have hx1 : x1 ≤ 9223372036854775807 := by rw [H1.out]; exact ups_le _ _ HK0.out
      have HX1 := Aside0.mk hx1
      have HJ := Aside0.mk hj
      have HG0 := Aside0.mk hb0
      have HG := Aside0.mk hg
      have HS := Aside0.mk (show l.length * 2 ≤ cur.size from hs)
      have OU := Aside0.mk (HU.out g rfl)
      clear hx1 hb0 hg hs HU
      have p5 : (0 ≤ x5) = True := eq_true HX.out.1
      have q5 : (x5 < (l.length : Int)) = True := eq_true c
      have CR := Aside0.mk c
      clear c
      clear hj
      have htx1 : ∃ K_ t_, laws_markText.f K_ (x1) = some t_ := laws_markText.some_ _ (by exact HX1.out)
      obtain ⟨K1_, tx1_, htx1⟩ := htx1
      have HT1 := Aside0.mk htx1
      clear htx1
      have htx2 : ∃ K_ t_, laws_markText.f K_ (wrap64 (x1 + 1)) = some t_ := laws_markText.some_ _ (by unfold wrap64; omega)
      obtain ⟨K2_, tx2_, htx2⟩ := htx2
      have HT2 := Aside0.mk htx2
      clear htx2
      go_wp2_with (first | ((with_reducible refine gate_callee (f := 38) rfl ?_); refine goesL_ (some 15) rfl rfl Try.func38 (by kernel_rfl) rfl #[.int .i64 (x1)] rfl (by (try simp only [List.map_toArray, List.map_cons, List.map_nil]); first | done | rfl) ?_; (with_reducible refine (laws_markText.calls K1_ (x1) tx1_ _ HT1.out).mono ?_); rintro e wn1 ⟨rfl, hb⟩; refine ⟨_, rfl, ?_⟩; have n0_ : Aside0 (Chg b0 [78] w wn1) := ⟨HC.out.trans (Chg.made hb (by have := HC.out.below.size; have := HLE.out; have := HJ.out; omega))⟩; have n1_ : Aside0 (Outer g 2 [] w wn1) := ⟨Outer.made OU.out (HC.out.shape g cur 78 HG.out).choose_spec.1 hb⟩; clear HC OU; (try clear BK); (try clear hx_); (try clear hf_); clear hb; have HC := n0_; have OU := n1_; clear n0_ n1_; obtain ⟨cu_, hcu_, scu_⟩ := HC.out.shape g cur 78 HG.out; have hs_ := HS.out; have hj_ := HJ.out; have BK := Aside0.mk hcu_; obtain ⟨vx_, hx_⟩ : ∃ v_, wn1.cell? ⟨g, x5.toNat * 2, none⟩ = some v_ := ⟨_, wr_at hcu_ (by omega)⟩; have hf_ := blk_frozen hcu_ (x5.toNat * 2); clear hcu_ hs_ hj_) | ((with_reducible refine gate_store (t := 9) (p := 17) rfl ?_); refine store_event (t := 9) (p := 17) (v := ?vo_wn2) (w1 := (wn1.setCell ⟨g, x5.toNat * 2, none⟩ (.string tx1_))) ?hg ?ho ?hn ?hr ?_; (case ho => rfl); (case hg => rfl); (case hn => rfl); (case hr => first | (go_simp; done) | (go_simp; rfl)); intro wn2 hw; have n0_ : Aside0 (Chg b0 [78] w wn2) := ⟨by rw [hw]; exact HC.out.trans (Chg.set BK.out HG0.out (by decide) _ _)⟩; have n1_ : Aside0 (Outer g 2 [] w wn2) := ⟨by rw [hw]; exact Outer.set OU.out BK.out (i := x5.toNat) (f := 0) (by decide) (by decide) (by decide) _⟩; clear HC OU BK hw; (try clear hx_); (try clear hf_); have HC := n0_; have OU := n1_; clear n0_ n1_) | ((with_reducible refine gate_callee (f := 38) rfl ?_); refine goesL_ (some 23) rfl rfl Try.func38 (by kernel_rfl) rfl #[.int .i64 (wrap64 (x1 + 1))] rfl (by (try simp only [List.map_toArray, List.map_cons, List.map_nil]); first | done | rfl) ?_; (with_reducible refine (laws_markText.calls K2_ (wrap64 (x1 + 1)) tx2_ _ HT2.out).mono ?_); rintro e wn3 ⟨rfl, hb⟩; refine ⟨_, rfl, ?_⟩; have n0_ : Aside0 (Chg b0 [78] w wn3) := ⟨HC.out.trans (Chg.made hb (by have := HC.out.below.size; have := HLE.out; have := HJ.out; omega))⟩; have n1_ : Aside0 (Outer g 2 [] w wn3) := ⟨Outer.made OU.out (HC.out.shape g cur 78 HG.out).choose_spec.1 hb⟩; clear HC OU; (try clear BK); (try clear hx_); (try clear hf_); clear hb; have HC := n0_; have OU := n1_; clear n0_ n1_; obtain ⟨cu_, hcu_, scu_⟩ := HC.out.shape g cur 78 HG.out; have hs_ := HS.out; have hj_ := HJ.out; have BK := Aside0.mk hcu_; obtain ⟨vx_, hx_⟩ : ∃ v_, wn3.cell? ⟨g, x5.toNat * 2 + 1, none⟩ = some v_ := ⟨_, wr_at hcu_ (by omega)⟩; have hf_ := blk_frozen hcu_ (x5.toNat * 2 + 1); clear hcu_ hs_ hj_) | ((with_reducible refine gate_store (t := 9) (p := 25) rfl ?_); refine store_event (t := 9) (p := 25) (v := ?vo_wn4) (w1 := (wn3.setCell ⟨g, x5.toNat * 2 + 1, none⟩ (.string tx2_))) ?hg ?ho ?hn ?hr ?_; (case ho => rfl); (case hg => rfl); (case hn => rfl); (case hr => first | (go_simp; done) | (go_simp; rfl)); intro wn4 hw; have n0_ : Aside0 (Chg b0 [78] w wn4) := ⟨by rw [hw]; exact HC.out.trans (Chg.set BK.out HG0.out (by decide) _ _)⟩; have n1_ : Aside0 (Outer g 2 [] w wn4) := ⟨by rw [hw]; exact Outer.set OU.out BK.out (i := x5.toNat) (f := 1) (by decide) (by decide) (by decide) _⟩; clear HC OU BK hw; (try clear hx_); (try clear hf_); have HC := n0_; have OU := n1_; clear n0_ n1_))
      go_roundg (l.length + 1 - (x5.toNat + 1))
      case measure => have := HQ.out; have := HJ.out; omega
      case rel =>
        have hx := HX.out
        have hj := HJ.out
        have hm := HMX.out
        have e5 : wrap64 (x5 + 1) = x5 + 1 := by unfold wrap64; omega
        have e6 : (x5 + 1).toNat = x5.toNat + 1 := by omega
        refine ⟨_, _, rfl, rfl, ⟨by rw [e5]; omega⟩, ⟨by rw [e5, e6]; omega⟩, ⟨?_⟩, HC, ⟨fun g' hg' => ?_⟩⟩
        · rw [e5, e6, laws_markAttrS.many_take l x5.toNat hj, Nat.add_comm, ups_add, ← H1.out]
          simp only [ups, Nat.add_comm, Nat.add_left_comm, Nat.zero_add]
        · injection hg' with hg'
          injection hg' with hg'
          subst hg'
          exact OU.out
    · have c3b0 : decide (x5 < (l.length : Int)) = false := decide_eq_false c
      go_wp2
      go_ret
      have hx := HX.out
      have h1 := H1.out
      rw [List.take_of_length_le (by omega)] at h1
      subst h1
      exact ⟨by first | rfl | simp, HC.out⟩
/-- How many marks a row takes. -/
def laws_markElemS.many (l : List S48) : Nat := l.foldl (fun m x => m + (2 + laws_markAttrS.many x.f2)) 0
theorem laws_markElemS.many_take (l : List S48) (j : Nat) (h : j < l.length) : laws_markElemS.many (l.take (j + 1)) = laws_markElemS.many (l.take j) + (2 + laws_markAttrS.many l[j].f2) := by
  unfold laws_markElemS.many
  rw [List.take_succ_eq_append_getElem h, List.foldl_append]
  rfl
def laws_markElemS.f (l : List S48) (k : Int) : Option Int := some (ups (laws_markElemS.many l) k)
/-- A row that can be written into, and so can the rows that its elements lead to. -/
def laws_markElemS.Row (w : World) (b0 : Nat) (u : Value) (l : List S48) : Prop := WrI w b0 48 3 u l.length ∧ ∀ (g n c : Nat), u = .slice (some ⟨g, 0, none⟩) n c → ∀ (j : Nat) (hj : j < l.length), ∃ v, (w.cell? ⟨g, j * 3 + 2, none⟩ = some v ∧ WrI w b0 78 2 v l[j].f2.length) ∧ True
theorem laws_markElemS.Row.of_R {w : World} {b0 : Nat} {ok : Nat → Prop} {u : Value} {l : List S48} (h : Kd.R k48 48 w b0 ok u l) : laws_markElemS.Row w b0 u l := by
  refine ⟨R_WrI h, fun g n c hu j hj => ?_⟩
  subst hu
  have en := (Kd.R_reads' h).1
  obtain ⟨ce, hcl, hM, hcc, _⟩ := Kd.R_elem h z48 (j : Int) (by omega) (by omega)
  have e : l.getD ((j : Int)).toNat z48 = l[j] := by rw [Int.toNat_natCast, List.getD_eq_getElem?_getD, List.getElem?_eq_getElem hj]; rfl
  rw [e] at hM
  obtain ⟨v2, rfl, g2⟩ := k48_openM hM
  exact ⟨v2, ⟨hcc 2 _ rfl, R_WrI g2⟩, trivial⟩
theorem laws_markElemS.Row.move {w w1 : World} {b0 : Nat} {ts : List TypeId} {u : Value} {l : List S48} (h : laws_markElemS.Row w b0 u l) (hc : Chg b0 ts w w1) (hn : 48 ∉ ts) : laws_markElemS.Row w1 b0 u l := by
  refine ⟨h.1.move hc.shape, fun g n c hu j hj => ?_⟩
  obtain ⟨v2, ⟨c2, g2⟩, _⟩ := h.2 g n c hu j hj
  obtain ⟨A', c', e', _, _, hA⟩ := h.1
  obtain ⟨g', cur, eg, _, hg, _⟩ := hA (by omega)
  subst eg
  obtain ⟨rfl, rfl, rfl⟩ : g' = g ∧ l.length = n ∧ c' = c := by
    rw [e'] at hu
    injection hu with h1 h2 h3
    injection h1 with h1
    injection h1 with h1
    exact ⟨h1, h2, h3⟩
  have hg1 := blk_Mk hg hc.kept hn
  exact ⟨v2, ⟨by rw [blk_cell hg1, ← blk_cell hg]; exact c2, g2.move hc.shape⟩, trivial⟩
set_option maxHeartbeats 8000000 in
set_option maxRecDepth 100000 in
theorem laws_markElemS.wr (k0 : Int) (hk0 : k0 ≤ 9223372036854775807) (u : Value) (l : List S48) (b0 : Nat) (w : World) (hw : laws_markElemS.Row w b0 u l) : Calls Try.prog 17 #[u, .int .i64 k0] w fun e w' => e = .returned (.int .i64 (ups (laws_markElemS.many l) k0)) ∧ Chg b0 [48, 78] w w' := by
  obtain ⟨⟨Au, cap, hu, hcap, hmx, hAu⟩, hrow⟩ := hw
  subst hu
  have HO := Aside0.mk hrow
  clear hrow
  have hle : b0 ≤ w.heap.size ∨ l.length = 0 := by
    by_cases h0 : 0 < l.length
    · obtain ⟨g, cur, _, hb, hc, _⟩ := hAu h0
      exact .inl (Nat.le_of_lt (Nat.lt_of_le_of_lt hb (blk_lt hc)))
    · exact .inr (by omega)
  have HLE := Aside0.mk hle
  clear hle
  have HAu := Aside0.mk hAu
  have HMX := Aside0.mk hmx
  have HK0 := Aside0.mk hk0
  clear hAu hmx hcap hk0
  go_enter Try.func17, Try.ntmps17
  go_wp2
  go_loopg [1, 5] (l.length + 1) (fun kq v1 v5 w' => ∃ (x1 : Int) (x5 : Int), v1 = .int .i64 x1 ∧ v5 = .int .i64 x5 ∧ Aside0 (0 ≤ x5 ∧ x5 ≤ (l.length : Int)) ∧ Aside0 (kq + x5.toNat = l.length + 1) ∧ Aside0 (x1 = ups (laws_markElemS.many (l.take x5.toNat)) k0) ∧ Aside0 (Chg b0 [48, 78] w w') ∧ Aside0 (∀ g, Au = some ⟨g, 0, none⟩ → Outer g 3 [2] w w'))
  case atStart => exact ⟨k0, 0, rfl, rfl, ⟨by omega⟩, ⟨rfl⟩, ⟨by simp [laws_markElemS.many, ups]⟩, ⟨Chg.refl _ _ _⟩, ⟨fun _ _ => Outer.refl _ _ _ _⟩⟩
  case round =>
    obtain ⟨x1, x5, rfl, rfl, HX, HQ, H1, HC, HU⟩ := hrel
    by_cases c : x5 < (l.length : Int)
    · have c3b0 : decide (x5 < (l.length : Int)) = true := decide_eq_true c
      have c4b0 : decide (0 ≤ x5) = true := decide_eq_true HX.out.1
      have hj : x5.toNat < l.length := by have := HX.out; omega
      obtain ⟨g, cur, hAg, hb0, hg, hs⟩ := HAu.out (by omega)
      subst hAg
      have hx1 : x1 ≤ 9223372036854775807 := by rw [H1.out]; exact ups_le _ _ HK0.out
      have HX1 := Aside0.mk hx1
      have HJ := Aside0.mk hj
      have HG0 := Aside0.mk hb0
      have HG := Aside0.mk hg
      have HS := Aside0.mk (show l.length * 3 ≤ cur.size from hs)
      have OU := Aside0.mk (HU.out g rfl)
      clear hx1 hb0 hg hs HU
      have p5 : (0 ≤ x5) = True := eq_true HX.out.1
      have q5 : (x5 < (l.length : Int)) = True := eq_true c
      have CR := Aside0.mk c
      clear c
      obtain ⟨v2_, ⟨hc2_, hw2_⟩, _⟩ := HO.out g _ _ rfl x5.toNat hj
      have HW2 := Aside0.mk hw2_
      have HCE2 := Aside0.mk hc2_
      clear hc2_ hw2_
      have htx1 : ∃ K_ t_, laws_markText.f K_ (x1) = some t_ := laws_markText.some_ _ (by exact HX1.out)
      obtain ⟨K1_, tx1_, htx1⟩ := htx1
      have HT1 := Aside0.mk htx1
      clear htx1
      have hk4 : wrap64 ((wrap64 (x1 + 1)) + 1) ≤ 9223372036854775807 := by first | (unfold wrap64; omega) | exact ups_le _ _ (by first | exact HX1.out | (unfold wrap64; omega) | exact ups_le _ _ (by first | exact HX1.out | (unfold wrap64; omega)))
      have HK4 := Aside0.mk hk4
      clear hk4
      go_wp2_with (first | ((with_reducible refine gate_callee (f := 38) rfl ?_); refine goesL_ (some 15) rfl rfl Try.func38 (by kernel_rfl) rfl #[.int .i64 (x1)] rfl (by (try simp only [List.map_toArray, List.map_cons, List.map_nil]); first | done | rfl) ?_; (with_reducible refine (laws_markText.calls K1_ (x1) tx1_ _ HT1.out).mono ?_); rintro e wn1 ⟨rfl, hb⟩; refine ⟨_, rfl, ?_⟩; have n0_ : Aside0 (Chg b0 [48, 78] w wn1) := ⟨HC.out.trans (Chg.made hb (by have := HC.out.below.size; have := HLE.out; have := HJ.out; omega))⟩; have n1_ : Aside0 (Outer g 3 [2] w wn1) := ⟨Outer.made OU.out (HC.out.shape g cur 48 HG.out).choose_spec.1 hb⟩; clear HC OU; (try clear BK); (try clear hx_); (try clear hf_); clear hb; have HC := n0_; have OU := n1_; clear n0_ n1_; obtain ⟨cu_, hcu_, scu_⟩ := HC.out.shape g cur 48 HG.out; have hs_ := HS.out; have hj_ := HJ.out; have BK := Aside0.mk hcu_; obtain ⟨vx_, hx_⟩ : ∃ v_, wn1.cell? ⟨g, x5.toNat * 3, none⟩ = some v_ := ⟨_, wr_at hcu_ (by omega)⟩; have hf_ := blk_frozen hcu_ (x5.toNat * 3); clear hcu_ hs_ hj_) | ((with_reducible refine gate_store (t := 9) (p := 17) rfl ?_); refine store_event (t := 9) (p := 17) (v := ?vo_wn2) (w1 := (wn1.setCell ⟨g, x5.toNat * 3, none⟩ (.string tx1_))) ?hg ?ho ?hn ?hr ?_; (case ho => rfl); (case hg => rfl); (case hn => rfl); (case hr => first | (go_simp; done) | (go_simp; rfl)); intro wn2 hw; have n0_ : Aside0 (Chg b0 [48, 78] w wn2) := ⟨by rw [hw]; exact HC.out.trans (Chg.set BK.out HG0.out (by decide) _ _)⟩; have n1_ : Aside0 (Outer g 3 [2] w wn2) := ⟨by rw [hw]; exact Outer.set OU.out BK.out (i := x5.toNat) (f := 0) (by decide) (by decide) (by decide) _⟩; clear HC OU BK hw; (try clear hx_); (try clear hf_); have HC := n0_; have OU := n1_; clear n0_ n1_; obtain ⟨cu_, hcu_, scu_⟩ := HC.out.shape g cur 48 HG.out; have hs_ := HS.out; have hj_ := HJ.out; have BK := Aside0.mk hcu_; obtain ⟨vx_, hx_⟩ : ∃ v_, wn2.cell? ⟨g, x5.toNat * 3 + 1, none⟩ = some v_ := ⟨_, wr_at hcu_ (by omega)⟩; have hf_ := blk_frozen hcu_ (x5.toNat * 3 + 1); clear hcu_ hs_ hj_) | ((with_reducible refine gate_store (t := 2) (p := 24) rfl ?_); refine store_event (t := 2) (p := 24) (v := ?vo_wn3) (w1 := (wn2.setCell ⟨g, x5.toNat * 3 + 1, none⟩ (.int .i64 (wrap64 (x1 + 1))))) ?hg ?ho ?hn ?hr ?_; (case ho => rfl); (case hg => rfl); (case hn => rfl); (case hr => first | (go_simp; done) | (go_simp; rfl)); intro wn3 hw; have n0_ : Aside0 (Chg b0 [48, 78] w wn3) := ⟨by rw [hw]; exact HC.out.trans (Chg.set BK.out HG0.out (by decide) _ _)⟩; have n1_ : Aside0 (Outer g 3 [2] w wn3) := ⟨by rw [hw]; exact Outer.set OU.out BK.out (i := x5.toNat) (f := 1) (by decide) (by decide) (by decide) _⟩; clear HC OU BK hw; (try clear hx_); (try clear hf_); have HC := n0_; have OU := n1_; clear n0_ n1_; obtain ⟨cu_, hcu_, scu_⟩ := HC.out.shape g cur 48 HG.out; have hs_ := HS.out; have hj_ := HJ.out; have BK := Aside0.mk hcu_; have hx_ : wn3.cell? ⟨g, x5.toNat * 3 + 2, none⟩ = some v2_ := (OU.out x5.toNat 2 (by decide)).trans HCE2.out; clear hcu_ hs_ hj_) | ((with_reducible refine gate_callee (f := 39) rfl ?_); refine goesL_ (some 33) rfl rfl Try.func39 (by kernel_rfl) rfl #[v2_, .int .i64 (wrap64 ((wrap64 (x1 + 1)) + 1))] rfl (by (try simp only [List.map_toArray, List.map_cons, List.map_nil]); first | done | rfl) ?_; refine (laws_markAttrS.wr (wrap64 ((wrap64 (x1 + 1)) + 1)) HK4.out v2_ l[x5.toNat].f2 b0 wn3 (HW2.out.move HC.out.shape)).mono ?_; rintro e wn4 ⟨rfl, hb⟩; refine ⟨_, rfl, ?_⟩; have n0_ : Aside0 (Chg b0 [48, 78] w wn4) := ⟨HC.out.trans (hb.mono (by decide))⟩; have n1_ : Aside0 (Outer g 3 [2] w wn4) := ⟨Outer.call OU.out BK.out hb (by decide)⟩; clear HC OU BK hb; (try clear hx_); (try clear hf_); have HC := n0_; have OU := n1_; clear n0_ n1_))
      go_roundg (l.length + 1 - (x5.toNat + 1))
      case measure => have := HQ.out; have := HJ.out; omega
      case rel =>
        have hx := HX.out
        have hj := HJ.out
        have hm := HMX.out
        have e5 : wrap64 (x5 + 1) = x5 + 1 := by unfold wrap64; omega
        have e6 : (x5 + 1).toNat = x5.toNat + 1 := by omega
        refine ⟨_, _, rfl, rfl, ⟨by rw [e5]; omega⟩, ⟨by rw [e5, e6]; omega⟩, ⟨?_⟩, HC, ⟨fun g' hg' => ?_⟩⟩
        · rw [e5, e6, laws_markElemS.many_take l x5.toNat hj, Nat.add_comm, ups_add, ← H1.out]
          rw [show 2 + laws_markAttrS.many l[x5.toNat].f2 = laws_markAttrS.many l[x5.toNat].f2 + (2) from by omega, ups_add]
          rfl
        · injection hg' with hg'
          injection hg' with hg'
          subst hg'
          exact OU.out
    · have c3b0 : decide (x5 < (l.length : Int)) = false := decide_eq_false c
      go_wp2
      go_ret
      have hx := HX.out
      have h1 := H1.out
      rw [List.take_of_length_le (by omega)] at h1
      subst h1
      exact ⟨by first | rfl | simp, HC.out⟩
theorem laws_markElemS.calls {u0 : Value} (b0 : Nat) (l0 : List S48) (a1 : Int) (r : Int) (hk : a1 ≤ 9223372036854775807) (w : World) (ho0 : ∃ ok, Kd.R k48 48 w b0 ok u0 l0) (_hb0 : b0 ≤ w.heap.size) (h : laws_markElemS.f l0 a1 = some r) : Calls Try.prog 17 #[u0, .int .i64 a1] w fun e w' => e = .returned (.int .i64 r) ∧ Chg b0 [48, 78] w w' := by
  obtain rfl : ups (laws_markElemS.many l0) a1 = r := Option.some.inj h
  exact laws_markElemS.wr a1 hk u0 l0 b0 w (laws_markElemS.Row.of_R ho0.choose_spec)
end Go.Proofs.Ytbjakfnfjndccaa.T
