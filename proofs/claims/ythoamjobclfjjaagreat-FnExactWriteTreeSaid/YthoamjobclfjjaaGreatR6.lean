-- Written by a program of this session's own (xp.py) for this seat.
import Derived.Test.YthoamjobclfjjaaGreatRZ
import Derived.Test.YthoamjobclfjjaaGreatR0
import Derived.Test.YthoamjobclfjjaaGreatR3
import Derived.Test.YthoamjobclfjjaaGreatR4
namespace Go.Proofs.YthoamjobclfjjaaGreat.R
open Go.RowKit Go.Proofs.YthoamjobclfjjaaGreatW.PrintWords Go.Proofs.YthoamjobclfjjaaGreatW.PrintLast Go.Proofs.YthoamjobclfjjaaGreatW.PrintMore
attribute [local go_sem] Instr.field asAgg
attribute [local go_sem] max2_int min2_int max_two min_two max_three min_three max_four min_four   -- for this text's walks alone
set_option linter.unusedVariables false
set_option linter.unusedSimpArgs false

/-! ### impl_parents_last: function 33 -/
def impl_parents_last.f (l0_0 : List Int) (l0_1 : List Int) : Option (Int × List Int × List Int) := if 0 ≤ (wrap64 ((l0_1.length : Int) - 1)) then (if (wrap64 ((l0_1.length : Int) - 1)) < (l0_1.length : Int) then (some (rd l0_1 (wrap64 ((l0_1.length : Int) - 1)), l0_0, l0_1)) else (none)) else (none)
set_option maxHeartbeats 8000000 in
set_option maxRecDepth 100000 in
theorem impl_parents_last.calls (gp0 : Nat) (P0_0_ : Nat → Prop) (u9000_ : Value) (l0_0 : List Int) (P0_1_ : Nat → Prop) (u9001_ : Value) (l0_1 : List Int) (r1 : Int) (r2 : List Int) (r3 : List Int) (w0 w : World) (hB : Below w0.heap.size w0 w) (hbx : w.heap[gp0]? = some (.cells #[u9000_, u9001_] 58 (0, 0))) (hge : w0.heap.size ≤ gp0) (ho0_0 : Kd.R (Kd.int .i64) 2 w w0.heap.size P0_0_ u9000_ l0_0) (hp0_0_0_1 : ∀ k_, P0_0_ k_ → ¬ P0_1_ k_) (ho0_1 : Kd.R (Kd.int .i64) 2 w w0.heap.size P0_1_ u9001_ l0_1) (hp0_1_0_0 : ∀ k_, P0_1_ k_ → ¬ P0_0_ k_) (h : impl_parents_last.f l0_0 l0_1 = some (r1, r2, r3)) :
    Calls Tryz.prog 33 #[.pointer (some ⟨gp0, 0, none⟩)] w fun e w' => ∃ v1_ v2_ : Value, e = .returned (.int .i64 r1) ∧ Kd.R (Kd.int .i64) 2 w' w0.heap.size (fun k_ => ((P0_0_ k_ ∨ P0_1_ k_) ∨ w.heap.size ≤ k_) ∧ some k_ ≠ (v2_ : Value).ownBlock) v1_ r2 ∧ Kd.R (Kd.int .i64) 2 w' w0.heap.size (fun k_ => ((P0_0_ k_ ∨ P0_1_ k_) ∨ w.heap.size ≤ k_) ∧ some k_ ≠ (v1_ : Value).ownBlock) v2_ r3 ∧ w'.heap[gp0]? = some (.cells #[v1_, v2_] 58 (0, 0)) ∧ Below w0.heap.size w0 w' ∧ Kept w w' (fun k_ => (P0_0_ k_ ∨ P0_1_ k_) ∨ k_ = gp0) := by
 have HO0_0 := a_ (show Kd.R (Kd.int .i64) 2 w w0.heap.size (fun k_ => ((P0_0_ k_ ∨ P0_1_ k_) ∨ w.heap.size ≤ k_) ∧ some k_ ≠ (u9001_ : Value).ownBlock) u9000_ l0_0 from Kd.R_mono ho0_0 (fun k_ hk => ⟨(.inl (.inl hk)), fun e_ => hp0_0_0_1 k_ hk (ho0_1.1 k_ e_.symm)⟩)); have HO0_1 := a_ (show Kd.R (Kd.int .i64) 2 w w0.heap.size (fun k_ => ((P0_0_ k_ ∨ P0_1_ k_) ∨ w.heap.size ≤ k_) ∧ some k_ ≠ (u9000_ : Value).ownBlock) u9001_ l0_1 from Kd.R_mono ho0_1 (fun k_ hk => ⟨(.inl (.inr hk)), fun e_ => hp0_1_0_0 k_ hk (ho0_0.1 k_ e_.symm)⟩)); have HK := a_ (Kept.refl w (fun k_ => (P0_0_ k_ ∨ P0_1_ k_) ∨ k_ = gp0)); have BK0 := a_ hbx; have GE0 := a_ hge; clear hbx hge; have HW0 := a_ hB.size; have HB := a_ hB; clear hB; have H : (if 0 ≤ (wrap64 ((l0_1.length : Int) - 1)) then (if (wrap64 ((l0_1.length : Int) - 1)) < (l0_1.length : Int) then (some (rd l0_1 (wrap64 ((l0_1.length : Int) - 1)), l0_0, l0_1)) else (none)) else (none)) = some (r1, r2, r3) := h; clear h; obtain ⟨ji2, hji2⟩ : ∃ j_ : Int, (wrap64 ((l0_1.length : Int) - 1)) = j_ := ⟨_, rfl⟩; replace H : (if 0 ≤ (ji2) then (if (ji2) < (l0_1.length : Int) then (some (rd l0_1 (ji2), l0_0, l0_1)) else (none)) else (none)) = some (r1, r2, r3) := by first | (rw [hji2] at H; exact H) | (simp only [hji2] at H ⊢; exact H)
 have hji2w : (IntKind.i64.wrap ((l0_1.length : Int) - 1)) = ji2 := (i64_w _).trans hji2; by_cases c3 : 0 ≤ (ji2)
 ·rw [if_pos c3] at H; have c3b0 : decide (0 ≤ (ji2)) = true := decide_eq_true c3; clear c3; by_cases c4 : (ji2) < (l0_1.length : Int)
  ·rw [if_pos c4] at H; have c4b0 : decide ((ji2) < (l0_1.length : Int)) = true := decide_eq_true c4; clear c4; simp only [Option.some.injEq, Prod.mk.injEq] at H; obtain ⟨rfl, rfl, rfl⟩ := H; have hcz5_0 : w.cell? ⟨gp0, 0, none⟩ = some (u9000_) := (blk_cell BK0.out 0).trans rfl; have hcz5_1 : w.cell? ⟨gp0, 1, none⟩ = some (u9001_) := (blk_cell BK0.out 1).trans rfl; have hfz5_0 := blk_frozen BK0.out 0; have hfz5_1 := blk_frozen BK0.out 1; obtain ⟨Ao6, co6, eo6⟩ := Kd.R_slice HO0_1.out; subst eo6; have p229 : 0 ≤ ((ji2) : Int) := of_decide_eq_true y3_; have q229 : (ji2) < (l0_1.length : Int) := of_decide_eq_true y3_; obtain ⟨ad229, e229, hx229_0⟩ := Kd.at_int (Kd.R_reads' HO0_1.out).2.2 (ji2) p229 q229; cases e229; replace p229 := eq_true p229; replace q229 := eq_true q229; go_enter Tryz.func33, Tryz.ntmps33
   go_wp2
   repeat (go_quiet (fail); try go_wp2)
   go_ret
   exact ⟨_, _, by first | rfl | (simp [errW_none, errW_some] <;> rfl) | (simp only [← hji2]; first | rfl | (simp [errW_none, errW_some] <;> rfl)) | (simp [*, errW_none, errW_some] <;> rfl), y45_, y46_, y8_, y1_, y4_⟩
  ·rw [if_neg c4] at H; exact absurd H y50_
 ·rw [if_neg c3] at H; exact absurd H y50_

/-! ### impl_isTaken_1: function 51 -/
def impl_isTaken_1.f (a0_0 : ByteArray) (a0_1 : ByteArray) (a1 : ByteArray) : Option (Bool) := some (a0_0.toList == (rdOf ByteArray.empty [a1] 0).toList)
set_option maxHeartbeats 8000000 in
set_option maxRecDepth 100000 in
theorem impl_isTaken_1.calls (a0_0 : ByteArray) (a0_1 : ByteArray) (adp1 : Addr) (a1 : ByteArray) (r : Bool) (w : World) (hr1 : Kd.C Kd.string w (some adp1) 1 [a1]) (h : impl_isTaken_1.f a0_0 a0_1 a1 = some r) :
    Calls Tryz.prog 51 #[.agg #[.string a0_0, .string a0_1], .pointer (some adp1)] w fun e w' => e = .returned (.bool r) ∧ Below w.heap.size w w' := by
 have hu51 := Tryz.underlying51; have HR1 := a_ hr1; clear hr1; have HB := a_ (Below.refl w.heap.size w); have H : (some (a0_0.toList == (rdOf ByteArray.empty [a1] 0).toList)) = some r := h; clear h; obtain rfl := Option.some.inj H; go_enter Tryz.func51, Tryz.ntmps51
 go_wp2_with (first | ((with_reducible refine gate_dst (N := 2) rfl ?_); refine box_event zr_ (N := 2) zr_ (cs := #[.string a0_0, .string a0_1]) (t := 51) zs_ ?_; intro gb231 hg w3 hbox hb; have n0_ := a_ (below_step y0_ hb); have n1_ := a_ (hbox); have n2_ := a_ ((by rw [hg]; exact (below_size y0_) : w.heap.size ≤ gb231)); have n3_ := a_ ((by rw [hg]; exact (below_size y0_) : w.heap.size ≤ gb231)); clear HB; have HB := n0_; have BK231 := n1_; have GW231 := n2_; have GE231 := n3_; clear n0_ n1_ n2_ n3_; clear hb hbox hg; have hcz4_0 : w3.cell? ⟨gb231, 0, none⟩ = some (.string a0_0) := (blk_cell BK231.out 0).trans rfl; have hcz4_1 : w3.cell? ⟨gb231, 1, none⟩ = some (.string a0_1) := (blk_cell BK231.out 1).trans rfl; have hfz4_0 := blk_frozen BK231.out 0; have hfz4_1 := blk_frozen BK231.out 1; have p232 : 0 ≤ (0 : Int) := (by omega); have q232 : 0 < ([a1].length : Int) := y50_; obtain ⟨ad232, e232, hx232_0⟩ := Kd.at_string HR1.out 0 p232 q232; obtain rfl : adp1 = ad232 := (by injection e232); have qi232 : (0 < [a1].length) = True := eq_true (by omega); (try rw [show ((0 : Int)).toNat = 0 from rfl] at hx232_0); (try rw [Addr.add_zero'] at hx232_0); replace hx232_0 := cT_ HB.out hx232_0; replace p232 := eq_true p232; replace q232 := eq_true q232))
 go_ret
 exact ⟨y6_, y61_⟩

/-! ### slices_IndexFunc_Attr_Attr__impl_isTaken_1: function 142 -/
def slices_IndexFunc_Attr_Attr__impl_isTaken_1.l0 : Nat → List (S51) → Int → Int → ByteArray → Option (Int)
  | 0, _, _, _, _ => none
  | k + 1, x0, x7, x8, x901 => if x8 < x7 then (if 0 ≤ x8 then (if x8 < (x0.length : Int) then ((impl_isTaken_1.f ((rd_T51 x0 x8).f0) ((rd_T51 x0 x8).f1) x901).bind fun t234 => (if t234 = true then (some x8) else (slices_IndexFunc_Attr_Attr__impl_isTaken_1.l0 k x0 x7 (wrap64 (x8 + 1)) x901))) else (none)) else (none)) else (some (-1))
def slices_IndexFunc_Attr_Attr__impl_isTaken_1.f (k : Nat) (l0 : List (S51)) (a1 : ByteArray) : Option (Int) := slices_IndexFunc_Attr_Attr__impl_isTaken_1.l0 k l0 (l0.length : Int) 0 a1
theorem slices_IndexFunc_Attr_Attr__impl_isTaken_1.mono_l : ∀ k, (∀ y0 y1 y2 y3, LeO (slices_IndexFunc_Attr_Attr__impl_isTaken_1.l0 k y0 y1 y2 y3) (slices_IndexFunc_Attr_Attr__impl_isTaken_1.l0 (k + 1) y0 y1 y2 y3))
  | 0 => fun _ _ _ _ r h => by simp [slices_IndexFunc_Attr_Attr__impl_isTaken_1.l0] at h
  | k + 1 => by
    have ih0 := slices_IndexFunc_Attr_Attr__impl_isTaken_1.mono_l k
    · intro y0 y1 y2 y3
      unfold slices_IndexFunc_Attr_Attr__impl_isTaken_1.l0
      repeat' (with_reducible first | exact ih0 _ _ _ _ | exact LeO.refl _ | exact LeO.none _ | refine LeO.ite ?_ ?_ | refine LeO.bind ?_ (fun _ => ?_))
theorem slices_IndexFunc_Attr_Attr__impl_isTaken_1.mono : ∀ a0 a1 k, LeO (slices_IndexFunc_Attr_Attr__impl_isTaken_1.f k a0 a1) (slices_IndexFunc_Attr_Attr__impl_isTaken_1.f (k + 1) a0 a1) := by
  intro a0 a1 k
  have ih0 := slices_IndexFunc_Attr_Attr__impl_isTaken_1.mono_l k
  unfold slices_IndexFunc_Attr_Attr__impl_isTaken_1.f
  repeat' (with_reducible first | exact ih0 _ _ _ _ | exact LeO.refl _ | exact LeO.none _ | refine LeO.ite ?_ ?_ | refine LeO.bind ?_ (fun _ => ?_))
set_option maxHeartbeats 8000000 in
set_option maxRecDepth 100000 in
theorem slices_IndexFunc_Attr_Attr__impl_isTaken_1.calls (k : Nat) (A0 : Option Addr) (c0 : Nat) (l0 : List (S51)) (adp1 : Addr) (a1 : ByteArray) (r : Int) (w : World) (hr0 : Kd.C k51 w A0 l0.length l0) (hc0 : l0.length ≤ c0) (hr1 : Kd.C Kd.string w (some adp1) 1 [a1]) (h : slices_IndexFunc_Attr_Attr__impl_isTaken_1.f k l0 a1 = some r) :
    Calls Tryz.prog 55 #[.slice A0 l0.length c0, .func (.func 51) #[] #[.pointer (some adp1)]] w fun e w' => e = .returned (.int .i64 r) ∧ Below w.heap.size w w' := by
 have hu51 := Tryz.underlying51; have HR0 := a_ hr0; have HC0 := a_ hc0; clear hr0 hc0; have HR1 := a_ hr1; clear hr1; have HB := a_ (Below.refl w.heap.size w); have H : (slices_IndexFunc_Attr_Attr__impl_isTaken_1.l0 k l0 (l0.length : Int) 0 a1) = some r := h; clear h; have H' := a_ H; clear H; go_enter Tryz.func55, Tryz.ntmps55
 go_wp2
 go_loopg [8] k (fun kq v8 w' => ∃ (x8_1 : Int), v8 = .int .i64 x8_1 ∧ Aside0 (slices_IndexFunc_Attr_Attr__impl_isTaken_1.l0 kq l0 (l0.length : Int) x8_1 a1 = some r) ∧ Aside0 (kq ≤ k) ∧ Aside0 (Below w.heap.size w w'))
 case atStart => exact ⟨(0), y2_, H', ⟨Nat.le_refl _⟩, ⟨y0_⟩⟩
 case round =>
  clear H'; obtain ⟨x8_1, rfl, HA, HK1, HB⟩ := hrel; cases gk with
  | zero => exact absurd HA.out (by simp [slices_IndexFunc_Attr_Attr__impl_isTaken_1.l0])
  | succ k1 =>
   have H := HA.out; clear HA; simp only [slices_IndexFunc_Attr_Attr__impl_isTaken_1.l0] at H; by_cases cx0 : x8_1 < (l0.length : Int); rw [if_pos cx0] at H; have cx0b0 : decide (x8_1 < (l0.length : Int)) = true := decide_eq_true cx0; clear cx0; by_cases cx1 : 0 ≤ x8_1; rw [if_pos cx1] at H; have cx1b0 : decide (0 ≤ x8_1) = true := decide_eq_true cx1; clear cx1; by_cases cx2 : x8_1 < (l0.length : Int); rw [if_pos cx2] at H; have cx2b0 : decide (x8_1 < (l0.length : Int)) = true := decide_eq_true cx2; clear cx2; replace H := Option.bind_eq_some_iff.mp H; obtain ⟨tx3, Ay3, H⟩ := H; have Ax3 := a_ Ay3; clear Ay3; by_cases cx4 : tx3 = true; subst cx4; rw [if_pos rfl] at H; obtain rfl := Option.some.inj H; have m0_0 := t_; have m0_1 := t_; rotate_left; replace cx4 := Bool.eq_false_iff.mpr cx4; subst cx4; rw [if_neg (show ¬ (false = true) by decide)] at H; have H' := a_ H; clear H; have m0_0 := t_; have m0_2 := t_; rotate_left
   ·rw [if_neg cx2] at H; exact absurd H y50_
   ·rw [if_neg cx1] at H; exact absurd H y50_
   rw [if_neg cx0] at H; have cx0b0 : decide (x8_1 < (l0.length : Int)) = false := decide_eq_false cx0; clear cx0; obtain rfl := Option.some.inj H; have m0_3 := t_; rotate_left
   all_goals (
    first
    | fail_if_success clear m0_0
    |(clear m0_0; have p9922068 : 0 ≤ (x8_1 : Int) := of_decide_eq_true y3_; have q9922068 : x8_1 < (l0.length : Int) := of_decide_eq_true y3_; obtain ⟨ad9922068, e9922068, hx9922068_0, hx9922068_1⟩ := at_T51 HR0.out x8_1 p9922068 q9922068; cases e9922068; replace hx9922068_0 := cT_ HB.out hx9922068_0; replace hx9922068_1 := cT_ HB.out hx9922068_1; replace p9922068 := eq_true p9922068; replace q9922068 := eq_true q9922068; go_wp2_with (first | ((with_reducible refine gate_dyn (t := 11) rfl ?_); refine goesC_ (some 16) rfl rfl Tryz.func51 y23_ rfl #[.agg #[.string ((rd_T51 l0 x8_1).f0), .string ((rd_T51 l0 x8_1).f1)]] #[.pointer (some adp1)] #[.agg #[.string ((rd_T51 l0 x8_1).f0), .string ((rd_T51 l0 x8_1).f1)], .pointer (some adp1)] rfl (by (try simp only [List.map_toArray, List.map_cons, List.map_nil]); first | done | rfl) rfl ?_; (with_reducible refine (impl_isTaken_1.calls ((rd_T51 l0 x8_1).f0) ((rd_T51 l0 x8_1).f1) _ a1 _ _ ?side1 Ax3.out).mono ?_); (case side1 => repeat (first | exact (Kd.C_below HR1.out HB.out) | (with_reducible refine Kd.C_alloc ?_ _) | (with_reducible refine Kd.C_drewN ?_ _) | (with_reducible refine Kd.C_drew ?_))); rintro e w9463424 ⟨rfl, hb⟩; refine ⟨_, rfl, ?_⟩; have n0_ := a_ (below_step y0_ hb); clear HB; have HB := n0_; clear n0_; (try clear hb); (try clear hb9366277); (try clear hk); (try clear hi))))
    first
    | fail_if_success clear m0_1
    |(clear m0_1; go_ret
      exact ⟨y6_, y0_⟩)
    first
    | fail_if_success clear m0_2
    |(clear m0_2; go_roundg k1
      case measure => have := HK1.out; omega
      case rel => exact ⟨(wrap64 (x8_1 + 1)), y2_, H', ⟨y29_⟩, ⟨y0_⟩⟩)
    first
    | fail_if_success clear m0_3
    |(clear m0_3; go_wp2
      go_ret
      exact ⟨y6_, y0_⟩))

/-! ### slices_ContainsFunc_Attr_Attr__impl_isTaken_1: function 141 -/
def slices_ContainsFunc_Attr_Attr__impl_isTaken_1.f (k : Nat) (l0 : List (S51)) (a1 : ByteArray) : Option (Bool) := (slices_IndexFunc_Attr_Attr__impl_isTaken_1.f k l0 a1).bind fun t233 => (some (decide (t233 ≥ 0)))
theorem slices_ContainsFunc_Attr_Attr__impl_isTaken_1.mono : ∀ a0 a1 k, LeO (slices_ContainsFunc_Attr_Attr__impl_isTaken_1.f k a0 a1) (slices_ContainsFunc_Attr_Attr__impl_isTaken_1.f (k + 1) a0 a1) := by
  intro a0 a1 k
  unfold slices_ContainsFunc_Attr_Attr__impl_isTaken_1.f
  repeat' (with_reducible first | exact slices_IndexFunc_Attr_Attr__impl_isTaken_1.mono _ _ _ | exact LeO.refl _ | exact LeO.none _ | refine LeO.ite ?_ ?_ | refine LeO.bind ?_ (fun _ => ?_))
set_option maxHeartbeats 8000000 in
set_option maxRecDepth 100000 in
theorem slices_ContainsFunc_Attr_Attr__impl_isTaken_1.calls (k : Nat) (A0 : Option Addr) (c0 : Nat) (l0 : List (S51)) (adp1 : Addr) (a1 : ByteArray) (r : Bool) (w : World) (hr0 : Kd.C k51 w A0 l0.length l0) (hc0 : l0.length ≤ c0) (hr1 : Kd.C Kd.string w (some adp1) 1 [a1]) (h : slices_ContainsFunc_Attr_Attr__impl_isTaken_1.f k l0 a1 = some r) :
    Calls Tryz.prog 50 #[.slice A0 l0.length c0, .func (.func 51) #[] #[.pointer (some adp1)]] w fun e w' => e = .returned (.bool r) ∧ Below w.heap.size w w' := by
 have HR0 := a_ hr0; have HC0 := a_ hc0; clear hr0 hc0; have HR1 := a_ hr1; clear hr1; have HB := a_ (Below.refl w.heap.size w); have H : ((slices_IndexFunc_Attr_Attr__impl_isTaken_1.f k l0 a1).bind fun t233 => (some (decide (t233 ≥ 0)))) = some r := h; clear h; replace H := Option.bind_eq_some_iff.mp H; obtain ⟨t233, A30, H⟩ := H; have A3 := a_ A30; clear A30; obtain rfl := Option.some.inj H; go_enter Tryz.func50, Tryz.ntmps50
 go_wp2_with (first | ((with_reducible refine gate_callee (f := 55) rfl ?_); refine gc_ 55 7 Tryz.func55 #[.slice A0 l0.length c0, .func (.func 51) #[] #[.pointer (some adp1)]] ?_; (with_reducible refine (slices_IndexFunc_Attr_Attr__impl_isTaken_1.calls k _ _ l0 _ a1 t233 _ ?side1 ?side2 ?side3 A3.out).mono ?_); (case side1 => repeat (first | exact HR0.out | (with_reducible refine Kd.C_alloc ?_ _) | (with_reducible refine Kd.C_drewN ?_ _) | (with_reducible refine Kd.C_drew ?_))); (case side2 => exact HC0.out); (case side3 => repeat (first | exact HR1.out | (with_reducible refine Kd.C_alloc ?_ _) | (with_reducible refine Kd.C_drewN ?_ _) | (with_reducible refine Kd.C_drew ?_))); rintro e w4 ⟨rfl, hb⟩; refine ⟨_, rfl, ?_⟩; have n0_ := a_ (below_step y0_ hb); clear HB; have HB := n0_; clear n0_; (try clear hb); (try clear hb2); (try clear hk); (try clear hi)))
 go_ret
 exact ⟨y6_, y0_⟩

/-! ### impl_isTaken: function 44 -/
def impl_isTaken.f (k : Nat) (l0 : List (S51)) (a1 : ByteArray) : Option (Bool) := (slices_ContainsFunc_Attr_Attr__impl_isTaken_1.f k l0 a1).bind fun t232 => (some t232)
theorem impl_isTaken.mono : ∀ a0 a1 k, LeO (impl_isTaken.f k a0 a1) (impl_isTaken.f (k + 1) a0 a1) := by
  intro a0 a1 k
  unfold impl_isTaken.f
  repeat' (with_reducible first | exact slices_ContainsFunc_Attr_Attr__impl_isTaken_1.mono _ _ _ | exact LeO.refl _ | exact LeO.none _ | refine LeO.ite ?_ ?_ | refine LeO.bind ?_ (fun _ => ?_))
set_option maxHeartbeats 8000000 in
set_option maxRecDepth 100000 in
theorem impl_isTaken.calls (k : Nat) (A0 : Option Addr) (c0 : Nat) (l0 : List (S51)) (a1 : ByteArray) (r : Bool) (w : World) (hr0 : Kd.C k51 w A0 l0.length l0) (hc0 : l0.length ≤ c0) (h : impl_isTaken.f k l0 a1 = some r) :
    Calls Tryz.prog 44 #[.slice A0 l0.length c0, .string a1] w fun e w' => e = .returned (.bool r) ∧ Below w.heap.size w w' := by
 have HR0 := a_ hr0; have HC0 := a_ hc0; clear hr0 hc0; have HB := a_ (Below.refl w.heap.size w); have H : ((slices_ContainsFunc_Attr_Attr__impl_isTaken_1.f k l0 a1).bind fun t232 => (some t232)) = some r := h; clear h; replace H := Option.bind_eq_some_iff.mp H; obtain ⟨t232, A30, H⟩ := H; have A3 := a_ A30; clear A30; obtain rfl := Option.some.inj H; go_enter Tryz.func44, Tryz.ntmps44
 go_wp2_with (first | ((with_reducible refine gate_dst (N := 3) rfl ?_); refine box_event zr_ (N := 3) zr_ (cs := #[.string a1]) (t := 9) zs_ ?_; intro gb231 hg w4 hbox hb; have n0_ := a_ (below_step y0_ hb); have n1_ := a_ (hbox); have n2_ := a_ ((by rw [hg]; exact (below_size y0_) : w.heap.size ≤ gb231)); have n3_ := a_ ((by rw [hg]; exact (below_size y0_) : w.heap.size ≤ gb231)); clear HB; have HB := n0_; have BK231 := n1_; have GW231 := n2_; have GE231 := n3_; clear n0_ n1_ n2_ n3_; clear hb hbox hg) | ((with_reducible refine gate_callee (f := 50) rfl ?_); refine gc_ 50 7 Tryz.func50 #[.slice A0 l0.length c0, .func (.func 51) #[] #[.pointer (some ⟨gb231, 0, none⟩)]] ?_; (with_reducible refine (slices_ContainsFunc_Attr_Attr__impl_isTaken_1.calls k _ _ l0 _ a1 t232 _ ?side1 ?side2 ?side3 A3.out).mono ?_); (case side1 => repeat (first | exact (Kd.C_below HR0.out HB.out) | (with_reducible refine Kd.C_alloc ?_ _) | (with_reducible refine Kd.C_drewN ?_ _) | (with_reducible refine Kd.C_drew ?_))); (case side2 => exact HC0.out); (case side3 => exact C_block (by (with_reducible repeat (first | refine blk_drewN ?_ _ | refine blk_drew ?_ | refine blk_alloc ?_ _)); exact BK231.out) rfl); rintro e w5 ⟨rfl, hb⟩; refine ⟨_, rfl, ?_⟩; have n0_ := a_ (blk_below (g := gb231) (o := .cells #[.string a1] 9 (0, 0)) (by (with_reducible repeat (first | refine blk_drewN ?_ _ | refine blk_drew ?_ | refine blk_alloc ?_ _)); exact BK231.out) hb); have n1_ := a_ (below_step y61_ hb); clear BK231; clear HB; have BK231 := n0_; have HB := n1_; clear n0_ n1_; (try clear hb); (try clear hb2); (try clear hk); (try clear hi)))
 go_ret
 exact ⟨y6_, y61_⟩

/-! ### impl_isPrint: function 52 -/
def impl_isPrint.f (a0 : Int) : Option (Bool) := if a0 ≥ 32 then (some (decide (a0 ≤ 126))) else (some false)
set_option maxHeartbeats 8000000 in
set_option maxRecDepth 100000 in
theorem impl_isPrint.calls (a0 : Int) (r : Bool) (w : World) (h : impl_isPrint.f a0 = some r) :
    Calls Tryz.prog 52 #[.int .u8 a0] w fun e w' => e = .returned (.bool r) ∧ Drawn0 w w' := by
 have H : (if a0 ≥ 32 then (some (decide (a0 ≤ 126))) else (some false)) = some r := h; clear h; by_cases c2 : a0 ≥ 32
 ·rw [if_pos c2] at H; have c2b0 : decide (32 ≤ a0) = true := decide_eq_true c2; clear c2; obtain rfl := Option.some.inj H; go_enter Tryz.func52, Tryz.ntmps52
  go_wp2
  go_ret
  exact ⟨y2_, y5_⟩
 ·rw [if_neg c2] at H; have c2b0 : decide (32 ≤ a0) = false := decide_eq_false c2; clear c2; obtain rfl := Option.some.inj H; go_enter Tryz.func52, Tryz.ntmps52
  go_wp2
  go_ret
  exact ⟨y2_, y5_⟩

/-! ### impl_areAll__impl_isPrint: function 143 -/
def impl_areAll__impl_isPrint.l0 : Nat → ByteArray → Int → Int → Option (Bool)
  | 0, _, _, _ => none
  | k + 1, x0, x7, x8 => if x8 < x7 then (if 0 ≤ x8 then (if x8 < (x0.size : Int) then ((impl_isPrint.f (bt x0 x8)).bind fun t233 => (if t233 = true then (impl_areAll__impl_isPrint.l0 k x0 x7 (wrap64 (x8 + 1))) else (some false))) else (none)) else (none)) else (some true)
def impl_areAll__impl_isPrint.f (k : Nat) (a0 : ByteArray)  : Option (Bool) := impl_areAll__impl_isPrint.l0 k a0 (a0.size : Int) 0
theorem impl_areAll__impl_isPrint.mono_l : ∀ k, (∀ y0 y1 y2, LeO (impl_areAll__impl_isPrint.l0 k y0 y1 y2) (impl_areAll__impl_isPrint.l0 (k + 1) y0 y1 y2))
  | 0 => fun _ _ _ r h => by simp [impl_areAll__impl_isPrint.l0] at h
  | k + 1 => by
    have ih0 := impl_areAll__impl_isPrint.mono_l k
    · intro y0 y1 y2
      unfold impl_areAll__impl_isPrint.l0
      repeat' (with_reducible first | exact ih0 _ _ _ | exact LeO.refl _ | exact LeO.none _ | refine LeO.ite ?_ ?_ | refine LeO.bind ?_ (fun _ => ?_))
theorem impl_areAll__impl_isPrint.mono : ∀ a0 k, LeO (impl_areAll__impl_isPrint.f k a0) (impl_areAll__impl_isPrint.f (k + 1) a0) := by
  intro a0 k
  have ih0 := impl_areAll__impl_isPrint.mono_l k
  unfold impl_areAll__impl_isPrint.f
  repeat' (with_reducible first | exact ih0 _ _ _ | exact LeO.refl _ | exact LeO.none _ | refine LeO.ite ?_ ?_ | refine LeO.bind ?_ (fun _ => ?_))
set_option maxHeartbeats 8000000 in
set_option maxRecDepth 100000 in
theorem impl_areAll__impl_isPrint.calls (k : Nat) (a0 : ByteArray)  (r : Bool) (w : World) (h : impl_areAll__impl_isPrint.f k a0 = some r) :
    Calls Tryz.prog 42 #[.string a0, .func (.func 52) #[] #[]] w fun e w' => e = .returned (.bool r) ∧ Drawn0 w w' := by
 have H : (impl_areAll__impl_isPrint.l0 k a0 (a0.size : Int) 0) = some r := h; clear h; have H' := a_ H; clear H; go_enter Tryz.func42, Tryz.ntmps42
 go_wp2
 go_loopg [8] k (fun kq v8 w' => ∃ (x8_1 : Int), v8 = .int .i64 x8_1 ∧ Aside0 (impl_areAll__impl_isPrint.l0 kq a0 (a0.size : Int) x8_1 = some r) ∧ Aside0 (kq ≤ k) ∧ Drawn0 w w')
 case atStart => exact ⟨(0), y2_, H', ⟨Nat.le_refl _⟩, y5_⟩
 case round =>
  clear H'; obtain ⟨x8_1, rfl, HA, HK1, ⟨m1, rfl⟩⟩ := hrel; cases gk with
  | zero => exact absurd HA.out (by simp [impl_areAll__impl_isPrint.l0])
  | succ k1 =>
   have H := HA.out; clear HA; simp only [impl_areAll__impl_isPrint.l0] at H; by_cases cx0 : x8_1 < (a0.size : Int); rw [if_pos cx0] at H; have cx0b0 : decide (x8_1 < (a0.size : Int)) = true := decide_eq_true cx0; clear cx0; by_cases cx1 : 0 ≤ x8_1; rw [if_pos cx1] at H; have cx1b0 : decide (0 ≤ x8_1) = true := decide_eq_true cx1; clear cx1; by_cases cx2 : x8_1 < (a0.size : Int); rw [if_pos cx2] at H; have cx2b0 : decide (x8_1 < (a0.size : Int)) = true := decide_eq_true cx2; clear cx2; replace H := Option.bind_eq_some_iff.mp H; obtain ⟨tx3, Ay3, H⟩ := H; have Ax3 := a_ Ay3; clear Ay3; by_cases cx4 : tx3 = true; subst cx4; rw [if_pos rfl] at H; have H' := a_ H; clear H; have m0_0 := t_; have m0_1 := t_; rotate_left; replace cx4 := Bool.eq_false_iff.mpr cx4; subst cx4; rw [if_neg (show ¬ (false = true) by decide)] at H; obtain rfl := Option.some.inj H; have m0_0 := t_; have m0_2 := t_; rotate_left
   ·rw [if_neg cx2] at H; exact absurd H y50_
   ·rw [if_neg cx1] at H; exact absurd H y50_
   rw [if_neg cx0] at H; have cx0b0 : decide (x8_1 < (a0.size : Int)) = false := decide_eq_false cx0; clear cx0; obtain rfl := Option.some.inj H; have m0_3 := t_; rotate_left
   all_goals (
    first
    | fail_if_success clear m0_0
    |(clear m0_0; have p9922068 : 0 ≤ (x8_1 : Int) := of_decide_eq_true y3_; have q9922068 : x8_1 < (a0.size : Int) := of_decide_eq_true y3_; have hx9922068 := bt_at a0 x8_1; replace p9922068 := eq_true p9922068; replace q9922068 := eq_true q9922068; go_wp2_with (first | ((with_reducible refine gate_dyn (t := 11) rfl ?_); refine goesV_ (some 15) rfl rfl Tryz.func52 y23_ rfl #[.int .u8 (bt a0 x8_1)] rfl (by (try simp only [List.map_toArray, List.map_cons, List.map_nil]); first | done | rfl | (simp only [List.length_drop, List.length_take]; rfl) | (go_simp; done) | (simp [Act.eval, bne]; done)) ?_; (with_reducible refine (impl_isPrint.calls (bt a0 x8_1) _ _ Ax3.out).mono ?_); rintro e w' ⟨rfl, ⟨nd, rfl⟩⟩; refine ⟨_, rfl, ?_⟩)))
    first
    | fail_if_success clear m0_1
    |(clear m0_1; go_roundg k1
      case measure => have := HK1.out; omega
      case rel => exact ⟨(wrap64 (x8_1 + 1)), y2_, H', ⟨y29_⟩, y5_⟩)
    first
    | fail_if_success clear m0_2
    |(clear m0_2; go_ret
      exact ⟨y2_, y5_⟩)
    first
    | fail_if_success clear m0_3
    |(clear m0_3; go_wp2
      go_ret
      exact ⟨y2_, y5_⟩))

/-! ### impl_valueFault: function 45 -/
def impl_valueFault.f (k : Nat) (a0 : ByteArray) : Option (Int) := (impl_codeIf.f (decide ((a0.size : Int) > 40)) 2).bind fun t233 => ((impl_areAll__impl_isPrint.f k a0).bind fun t234 => ((impl_codeIf.f (!t234) 5).bind fun t235 => ((impl_firstCode.f k (([t233, t235] : List Int))).bind fun t239 => (some t239))))
theorem impl_valueFault.mono : ∀ a0 k, LeO (impl_valueFault.f k a0) (impl_valueFault.f (k + 1) a0) := by
  intro a0 k
  unfold impl_valueFault.f
  repeat' (with_reducible first | exact impl_areAll__impl_isPrint.mono _ _ | exact impl_firstCode.mono _ _ | exact LeO.refl _ | exact LeO.none _ | refine LeO.ite ?_ ?_ | refine LeO.bind ?_ (fun _ => ?_))
set_option maxHeartbeats 8000000 in
set_option maxRecDepth 100000 in
theorem impl_valueFault.calls (k : Nat) (a0 : ByteArray) (r : Int) (w : World) (h : impl_valueFault.f k a0 = some r) :
    Calls Tryz.prog 45 #[.string a0] w fun e w' => e = .returned (.int .i64 r) ∧ Below w.heap.size w w' := by
 have HB := a_ (Below.refl w.heap.size w); have H : ((impl_codeIf.f (decide ((a0.size : Int) > 40)) 2).bind fun t233 => ((impl_areAll__impl_isPrint.f k a0).bind fun t234 => ((impl_codeIf.f (!t234) 5).bind fun t235 => ((impl_firstCode.f k (([t233, t235] : List Int))).bind fun t239 => (some t239))))) = some r := h; clear h; replace H := Option.bind_eq_some_iff.mp H; obtain ⟨t233, A20, H⟩ := H; have A2 := a_ A20; clear A20; replace H := Option.bind_eq_some_iff.mp H; obtain ⟨t234, A30, H⟩ := H; have A3 := a_ A30; clear A30; replace H := Option.bind_eq_some_iff.mp H; obtain ⟨t235, A40, H⟩ := H; have A4 := a_ A40; clear A40; obtain ⟨y236, hy_⟩ : ∃ y_ : List Int, y_ = (([t233, t235] : List Int)) := ⟨_, rfl⟩; replace H : ((impl_firstCode.f k y236).bind fun t239 => (some t239)) = some r := z0_; have Ny236 := a_ hy_; clear hy_; replace H := Option.bind_eq_some_iff.mp H; obtain ⟨t239, A50, H⟩ := H; have A5 := a_ A50; clear A50; obtain rfl := Option.some.inj H; go_enter Tryz.func45, Tryz.ntmps45
 go_wp2_with (first | ((with_reducible refine gate_callee (f := 32) rfl ?_); refine gc_ 32 6 Tryz.func32 #[.bool (decide ((a0.size : Int) > 40)), .int .i64 2] ?_; (with_reducible refine (impl_codeIf.calls (decide ((a0.size : Int) > 40)) 2 t233 _ A2.out).mono ?_); rintro e w' ⟨rfl, ⟨nd, rfl⟩⟩; refine ⟨_, rfl, ?_⟩) | ((with_reducible refine gate_callee (f := 42) rfl ?_); refine gc_ 42 8 Tryz.func42 #[.string a0, .func (.func 52) #[] #[]] ?_; (with_reducible refine (impl_areAll__impl_isPrint.calls k a0  t234 _ A3.out).mono ?_); rintro e w' ⟨rfl, ⟨nd, rfl⟩⟩; refine ⟨_, rfl, ?_⟩) | ((with_reducible refine gate_callee (f := 32) rfl ?_); refine gc_ 32 10 Tryz.func32 #[.bool (!t234), .int .i64 5] ?_; (with_reducible refine (impl_codeIf.calls (!t234) 5 t235 _ A4.out).mono ?_); rintro e w' ⟨rfl, ⟨nd, rfl⟩⟩; refine ⟨_, rfl, ?_⟩) | ((with_reducible refine gate_dst (N := 11) rfl ?_); refine Kd.R_lit (Kd.int .i64) _ 2 ?hg (N := 11) ?hd (xs := ([t233, t235] : List Int)) (inner := [.int .i64 t233, .int .i64 t235]) (ok := fun _ => True) (okp := fun _ => True) ?hr ?hp (fun _ hk => hk) trivial (Below.refl _ _) (Nat.le_refl _) y50_ ?_; (case hd => rfl); (case hg => rfl); (case hr => first | (go_simp; done) | (go_simp; rfl)); (case hp => exact (Reps.one (show Kd.M (Kd.int .i64) _ _ _ t233 [.int .i64 t233] from rfl) (Reps.one (show Kd.M (Kd.int .i64) _ _ _ t235 [.int .i64 t235] from rfl) (Reps.none _ _)))); intro v237 w6 ho7 hb hg_ hnew_; clear hg_ hnew_; (first | rw [← Ny236.out] at ho7 | (simp only [Int.reduceToNat] at ho7; rw [← Ny236.out] at ho7)); have n0_ := a_ (Kd.R_lower ho7 (below_size y0_)); have n1_ := a_ (below_step y0_ hb); clear HB; have HO238 := n0_; have HB := n1_; clear n0_ n1_; clear hb ho7; obtain ⟨Ao8, co8, eo8⟩ := Kd.R_slice HO238.out; subst eo8) | ((with_reducible refine gate_callee (f := 29) rfl ?_); refine gc_ 29 12 Tryz.func29 #[.slice Ao8 y236.length co8] ?_; (with_reducible refine (impl_firstCode.calls k _ _ y236 t239 _ ?side1 ?side2 A5.out).mono ?_); (case side1 => repeat (first | exact (Kd.R_reads' HO238.out).2.2 | (with_reducible refine Kd.C_alloc ?_ _) | (with_reducible refine Kd.C_drewN ?_ _) | (with_reducible refine Kd.C_drew ?_))); (case side2 => exact (Kd.R_reads' HO238.out).2.1); rintro e w' ⟨rfl, ⟨nd, rfl⟩⟩; refine ⟨_, rfl, ?_⟩))
 go_ret
 exact ⟨y6_, y0_⟩

/-! ### impl_attrsFault: function 34 -/
def impl_attrsFault.l0 : Nat → List (S51) → List (S51) → Int → Int → Option (Int)
  | 0, _, _, _, _ => none
  | k + 1, x0, x6, x7, x8 => if x8 < x7 then (if 0 ≤ x8 then (if x8 < (x6.length : Int) then ((impl_NameFault.f k ((rd_T51 x6 x8).f0)).bind fun t242 => (if x8 ≤ (x0.length : Int) then ((impl_isTaken.f k (x0.take (x8 : Int).toNat) ((rd_T51 x6 x8).f0)).bind fun t247 => ((impl_codeIf.f t247 6).bind fun t248 => ((impl_valueFault.f k ((rd_T51 x6 x8).f1)).bind fun t249 => ((impl_firstCode.f k (([t242, t248, t249] : List Int))).bind fun t253 => (if t253 = 0 then (impl_attrsFault.l0 k x0 x6 x7 (wrap64 (x8 + 1))) else (some t253)))))) else (none))) else (none)) else (none)) else (some 0)
def impl_attrsFault.f (k : Nat) (l0 : List (S51)) : Option (Int) := impl_attrsFault.l0 k l0 l0 (l0.length : Int) 0
theorem impl_attrsFault.mono_l : ∀ k, (∀ y0 y1 y2 y3, LeO (impl_attrsFault.l0 k y0 y1 y2 y3) (impl_attrsFault.l0 (k + 1) y0 y1 y2 y3))
  | 0 => fun _ _ _ _ r h => by simp [impl_attrsFault.l0] at h
  | k + 1 => by
    have ih0 := impl_attrsFault.mono_l k
    · intro y0 y1 y2 y3
      unfold impl_attrsFault.l0
      repeat' (with_reducible first | exact ih0 _ _ _ _ | exact impl_NameFault.mono _ _ | exact impl_firstCode.mono _ _ | exact impl_isTaken.mono _ _ _ | exact impl_valueFault.mono _ _ | exact LeO.refl _ | exact LeO.none _ | refine LeO.ite ?_ ?_ | refine LeO.bind ?_ (fun _ => ?_))
theorem impl_attrsFault.mono : ∀ a0 k, LeO (impl_attrsFault.f k a0) (impl_attrsFault.f (k + 1) a0) := by
  intro a0 k
  have ih0 := impl_attrsFault.mono_l k
  unfold impl_attrsFault.f
  repeat' (with_reducible first | exact ih0 _ _ _ _ | exact impl_NameFault.mono _ _ | exact impl_firstCode.mono _ _ | exact impl_isTaken.mono _ _ _ | exact impl_valueFault.mono _ _ | exact LeO.refl _ | exact LeO.none _ | refine LeO.ite ?_ ?_ | refine LeO.bind ?_ (fun _ => ?_))
def impl_attrsFault.T4 : Bool × List (List Nat × List Nat) := (true, [([], []), ([0], [0]), ([1], [1]), ([], []), ([], []), ([3, 4], [3, 4]), ([], []), ([6], [6]), ([5, 7, 2], [5, 7]), ([8, 8], [8]), ([], []), ([10], [10]), ([11, 9], [11]), ([2, 9, 12], [2, 9, 12]), ([13, 12], [13]), ([14, 14, 0, 1, 2, 3, 4, 5, 6, 7, 8, 9, 10, 11, 12, 13, 14], [14])])
def impl_attrsFault.B4 : List Nat := [0, 1, 3, 0, 0, 24, 0, 64, 255, 511, 0, 1024, 4095, 8191, 16383, 32767]
theorem impl_attrsFault.tab4 : rtab .any (opsOf Tryz.f34 4) = impl_attrsFault.T4 := by kernel_rfl
theorem impl_attrsFault.bits4 : waitsOk impl_attrsFault.T4.2 impl_attrsFault.B4 = true := by kernel_rfl
set_option maxHeartbeats 8000000 in
set_option maxRecDepth 100000 in
theorem impl_attrsFault.calls (k : Nat) (A0 : Option Addr) (c0 : Nat) (l0 : List (S51)) (r : Int) (w : World) (hr0 : Kd.C k51 w A0 l0.length l0) (hc0 : l0.length ≤ c0) (h : impl_attrsFault.f k l0 = some r) :
    Calls Tryz.prog 34 #[.slice A0 l0.length c0] w fun e w' => e = .returned (.int .i64 r) ∧ Below w.heap.size w w' := by
 have hu51 := Tryz.underlying51; have HR0 := a_ hr0; have HC0 := a_ hc0; clear hr0 hc0; have HB := a_ (Below.refl w.heap.size w); have H : (impl_attrsFault.l0 k l0 l0 (l0.length : Int) 0) = some r := h; clear h; have H' := a_ H; clear H; go_enter Tryz.func34, Tryz.ntmps34
 go_wp2
 go_loopg [8] k (fun kq v8 w' => ∃ (x8_1 : Int), v8 = .int .i64 x8_1 ∧ Aside0 (impl_attrsFault.l0 kq l0 l0 (l0.length : Int) x8_1 = some r) ∧ Aside0 (kq ≤ k) ∧ Aside0 (Below w.heap.size w w'))
 case atStart => exact ⟨(0), y2_, H', ⟨Nat.le_refl _⟩, ⟨y0_⟩⟩
 case round =>
  clear H'; obtain ⟨x8_1, rfl, HA, HK1, HB⟩ := hrel; cases gk with
  | zero => exact absurd HA.out (by simp [impl_attrsFault.l0])
  | succ k1 =>
   have H := HA.out; clear HA; simp only [impl_attrsFault.l0] at H; by_cases cx0 : x8_1 < (l0.length : Int); rw [if_pos cx0] at H; have cx0b0 : decide (x8_1 < (l0.length : Int)) = true := decide_eq_true cx0; clear cx0; by_cases cx1 : 0 ≤ x8_1; rw [if_pos cx1] at H; have cx1b0 : decide (0 ≤ x8_1) = true := decide_eq_true cx1; clear cx1; by_cases cx2 : x8_1 < (l0.length : Int); rw [if_pos cx2] at H; have cx2b0 : decide (x8_1 < (l0.length : Int)) = true := decide_eq_true cx2; clear cx2; replace H := Option.bind_eq_some_iff.mp H; obtain ⟨tx3, Ay3, H⟩ := H; have Ax3 := a_ Ay3; clear Ay3; have c6b0 := eq_true (of_decide_eq_true y3_ : 0 ≤ x8_1); by_cases cx4 : x8_1 ≤ (l0.length : Int); rw [if_pos cx4] at H; have cx4b0 := eq_true cx4; have cx4b1 : decide (x8_1 ≤ (l0.length : Int)) = true := decide_eq_true cx4; clear cx4; obtain ⟨y243, hy_⟩ : ∃ y_ : List (S51), y_ = (l0.take (x8_1 : Int).toNat) := ⟨_, rfl⟩; replace H : ((impl_isTaken.f k1 y243 ((rd_T51 l0 x8_1).f0)).bind fun t247 => ((impl_codeIf.f t247 6).bind fun t248 => ((impl_valueFault.f k1 ((rd_T51 l0 x8_1).f1)).bind fun t249 => ((impl_firstCode.f k1 (([tx3, t248, t249] : List Int))).bind fun t253 => (if t253 = 0 then (impl_attrsFault.l0 k1 l0 l0 (l0.length : Int) (wrap64 (x8_1 + 1))) else (some t253)))))) = some r := z0_; have Ny243 := a_ hy_; clear hy_; replace H := Option.bind_eq_some_iff.mp H; obtain ⟨tx5, Ay5, H⟩ := H; have Ax5 := a_ Ay5; clear Ay5; replace H := Option.bind_eq_some_iff.mp H; obtain ⟨tx6, Ay6, H⟩ := H; have Ax6 := a_ Ay6; clear Ay6; replace H := Option.bind_eq_some_iff.mp H; obtain ⟨tx7, Ay7, H⟩ := H; have Ax7 := a_ Ay7; clear Ay7; obtain ⟨y250, hy_⟩ : ∃ y_ : List Int, y_ = (([tx3, tx6, tx7] : List Int)) := ⟨_, rfl⟩; replace H : ((impl_firstCode.f k1 y250).bind fun t253 => (if t253 = 0 then (impl_attrsFault.l0 k1 l0 l0 (l0.length : Int) (wrap64 (x8_1 + 1))) else (some t253))) = some r := z0_; have Ny250 := a_ hy_; clear hy_; replace H := Option.bind_eq_some_iff.mp H; obtain ⟨tx8, Ay8, H⟩ := H; have Ax8 := a_ Ay8; clear Ay8; by_cases cx9 : tx8 = 0; rw [if_pos cx9] at H; have cx9b0 : (tx8 == 0) = true := beq_iff_eq.mpr cx9; have cx9b1 : (tx8 != 0) = false := bne_eq_false_iff_eq.mpr cx9; clear cx9; have H' := a_ H; clear H; have m0_0 := t_; have m0_1 := t_; have m0_3 := t_; have m0_4 := t_; rotate_left; rw [if_neg cx9] at H; have cx9b0 : (tx8 == 0) = false := beq_eq_false_iff_ne.mpr cx9; have cx9b1 : (tx8 != 0) = true := bne_iff_ne.mpr cx9; obtain rfl := Option.some.inj H; have m0_0 := t_; have m0_2 := t_; have m0_3 := t_; have m0_5 := t_; rotate_left
   ·rw [if_neg cx4] at H; exact absurd H y50_
   ·rw [if_neg cx2] at H; exact absurd H y50_
   ·rw [if_neg cx1] at H; exact absurd H y50_
   rw [if_neg cx0] at H; have cx0b0 : decide (x8_1 < (l0.length : Int)) = false := decide_eq_false cx0; clear cx0; obtain rfl := Option.some.inj H; have m0_6 := t_; rotate_left
   all_goals (
    first
    | fail_if_success clear m0_0
    |(clear m0_0; have p9922068 : 0 ≤ (x8_1 : Int) := of_decide_eq_true y3_; have q9922068 : x8_1 < (l0.length : Int) := of_decide_eq_true y3_; obtain ⟨ad9922068, e9922068, hx9922068_0, hx9922068_1⟩ := at_T51 HR0.out x8_1 p9922068 q9922068; cases e9922068; replace hx9922068_0 := cT_ HB.out hx9922068_0; replace hx9922068_1 := cT_ HB.out hx9922068_1; replace p9922068 := eq_true p9922068; replace q9922068 := eq_true q9922068; try go_wp2_with (first | ((with_reducible refine gate_dst (N := 4) rfl ?_); refine box_event zr_ (N := 4) zr_ (cs := #[.string (⟨#[]⟩ : ByteArray), .string (⟨#[]⟩ : ByteArray)]) (t := 51) zs_ ?_; intro gb9191860 hg w9632384 hbox hb; have n0_ := a_ (below_step y0_ hb); have n1_ := a_ (hbox); have n2_ := a_ ((by rw [hg]; exact (below_size y0_) : w.heap.size ≤ gb9191860)); have n3_ := a_ ((by rw [hg]; exact (below_size y0_) : w.heap.size ≤ gb9191860)); clear HB; have HB := n0_; have BK9191860 := n1_; have GW9191860 := n2_; have GE9191860 := n3_; clear n0_ n1_ n2_ n3_; clear hb hbox hg; have hcz9004634_0 : w9632384.cell? ⟨gb9191860, 0, none⟩ = some (.string (⟨#[]⟩ : ByteArray)) := (blk_cell BK9191860.out 0).trans rfl; have hcz9004634_1 : w9632384.cell? ⟨gb9191860, 1, none⟩ = some (.string (⟨#[]⟩ : ByteArray)) := (blk_cell BK9191860.out 1).trans rfl; have hfz9004634_0 := blk_frozen BK9191860.out 0; have hfz9004634_1 := blk_frozen BK9191860.out 1))
      have n0_ : Aside0 (((w9632384.setCell ⟨gb9191860, 0, none⟩ (.string ((rd_T51 l0 x8_1).f0))).setCell ⟨gb9191860, 1, none⟩ (.string ((rd_T51 l0 x8_1).f1))).heap[gb9191860]? = some (.cells #[.string ((rd_T51 l0 x8_1).f0), .string ((rd_T51 l0 x8_1).f1)] 51 (0, 0))) := ⟨by (with_reducible repeat (first | refine blk_drewN ?_ _ | refine blk_drew ?_ | refine blk_alloc ?_ _)); refine blk_put (cs := #[.string ((rd_T51 l0 x8_1).f0), .string (⟨#[]⟩ : ByteArray)]) ?_ 1 _ rfl; (with_reducible repeat (first | refine blk_drewN ?_ _ | refine blk_drew ?_ | refine blk_alloc ?_ _)); refine blk_put (cs := #[.string (⟨#[]⟩ : ByteArray), .string (⟨#[]⟩ : ByteArray)]) ?_ 0 _ rfl; (with_reducible repeat (first | refine blk_drewN ?_ _ | refine blk_drew ?_ | refine blk_alloc ?_ _)); exact BK9191860.out⟩; have n1_ : Aside0 (Below w.heap.size w ((w9632384.setCell ⟨gb9191860, 0, none⟩ (.string ((rd_T51 l0 x8_1).f0))).setCell ⟨gb9191860, 1, none⟩ (.string ((rd_T51 l0 x8_1).f1)))) := ⟨y17_⟩; (try clear BK9191860); (try clear HB); generalize ((w9632384.setCell ⟨gb9191860, 0, none⟩ (.string ((rd_T51 l0 x8_1).f0))).setCell ⟨gb9191860, 1, none⟩ (.string ((rd_T51 l0 x8_1).f1))) = w9425084 at n0_ n1_ ⊢; have BK9191860 := n0_; have HB := n1_; clear n0_ n1_; have n0_ := a_ (blk_drew BK9191860.out); have n1_ := a_ (below_drew1 HB.out); clear BK9191860; clear HB; have BK9191860 := n0_; have HB := n1_; clear n0_ n1_; have q9891288 : (x8_1 : Int) ≤ ((l0.length : Int) : Int) := of_decide_eq_true y3_)
    first
    | fail_if_success clear m0_1
    |(clear m0_1; obtain ⟨i017, hi017, _, hsz17, _⟩ := info_parts info51; have hroom17 : l0.length ≤ c0 := HC0.out; have hC17 : Kd.C k51 _ (some ad9922068) l0.length l0 := HR0.out; have hcut17 := cut_to (P := Tryz.prog) 38 51 .i64 Tryz.underlying38 hi017 (some ad9922068) l0.length c0 x8_1 (of_decide_eq_true y3_) q9891288 hroom17; have hr9891288 := Kd.C_take (m := (x8_1 : Int).toNat) hC17 (by omega); have hy9891288 : y243.length = (x8_1 : Int).toNat := (by rw [Ny243.out, List.length_take]; omega); rw [← Ny243.out] at hr9891288; rw [← hy9891288] at hcut17; have HR246 := a_ hr9891288; have HC246 := a_ (show y243.length ≤ c0 from by omega); clear hr9891288 hC17 hroom17 hi017 hsz17; have KY17 := a_ hy9891288)
    first
    | fail_if_success clear m0_2
    |(clear m0_2; obtain ⟨i028, hi028, _, hsz28, _⟩ := info_parts info51; have hroom28 : l0.length ≤ c0 := HC0.out; have hC28 : Kd.C k51 _ (some ad9922068) l0.length l0 := HR0.out; have hcut28 := cut_to (P := Tryz.prog) 38 51 .i64 Tryz.underlying38 hi028 (some ad9922068) l0.length c0 x8_1 (of_decide_eq_true y3_) q9891288 hroom28; have hr9891288 := Kd.C_take (m := (x8_1 : Int).toNat) hC28 (by omega); have hy9891288 : y243.length = (x8_1 : Int).toNat := (by rw [Ny243.out, List.length_take]; omega); rw [← Ny243.out] at hr9891288; rw [← hy9891288] at hcut28; have HR246 := a_ hr9891288; have HC246 := a_ (show y243.length ≤ c0 from by omega); clear hr9891288 hC28 hroom28 hi028 hsz28; have KY28 := a_ hy9891288)
    first
    | fail_if_success clear m0_3
    |(clear m0_3; clear hy9891288; replace q9891288 := eq_true q9891288; refine start_ (n := 16) (S := fun w' => w'.cell? ⟨gb9191860, 0, none⟩ = some (.string ((rd_T51 l0 x8_1).f0)) ∧ w'.cell? ⟨gb9191860, 1, none⟩ = some (.string ((rd_T51 l0 x8_1).f1))) (ds := []) #[F_,F_,F_,F_,F_,F_,F_,F_,F_,F_,F_,F_,F_,F_,F_,F_] y23_ rfl rfl ⟨(blk_cell BK9191860.out 0).trans rfl, (blk_cell BK9191860.out 1).trans rfl⟩ (fun hHeld => ?_); refine with_tabW impl_attrsFault.tab4 impl_attrsFault.bits4 (fun HT_ HW_ => ?_); generalize w9425084.drew = w9770177 at BK9191860 HB HR246 hHeld ⊢; refine pure_ (i := 0) (N := some 13) #[T_,F_,F_,F_,F_,F_,F_,F_,F_,F_,F_,F_,F_,F_,F_,F_] rfl rfl z1_ (fun _ _ _ h => h) (Or.inl ⟨rfl, z2_⟩) z3_ ?_; refine pure_ (i := 3) (N := some 16) #[T_,F_,F_,T_,F_,F_,F_,F_,F_,F_,F_,F_,F_,F_,F_,F_] rfl rfl z1_ (fun _ _ _ h => h) (Or.inl ⟨rfl, z2_⟩) z3_ ?_; refine pure_ (i := 4) (N := some 17) #[T_,F_,F_,T_,T_,F_,F_,F_,F_,F_,F_,F_,F_,F_,F_,F_] rfl rfl z1_ (fun _ _ _ h => h) (Or.inl ⟨rfl, z2_⟩) z3_ ?_; refine pure_ (i := 5) (N := some 18) #[T_,F_,F_,T_,T_,T_,F_,F_,F_,F_,F_,F_,F_,F_,F_,F_] rfl rfl z1_ (fun _ _ _ h => h) (Or.inl ⟨rfl, z2_⟩) z3_ ?_; refine pure_ (i := 6) (N := some 19) #[T_,F_,F_,T_,T_,T_,T_,F_,F_,F_,F_,F_,F_,F_,F_,F_] rfl rfl z1_ (fun _ _ _ h => h) (Or.inl ⟨rfl, z2_⟩) z3_ ?_; refine pure_ (i := 10) (N := some 23) #[T_,F_,F_,T_,T_,T_,T_,F_,F_,F_,T_,F_,F_,F_,F_,F_] rfl rfl z1_ (fun _ _ _ h => h) (Or.inl ⟨rfl, z2_⟩) z3_ ?_; refine take_ (i := 1) (N := some 14) #[T_,T_,F_,T_,T_,T_,T_,F_,F_,F_,T_,F_,F_,F_,F_,F_] rfl rfl z4_ (fun _ _ _ h => h) (Or.inl ⟨rfl, z5_⟩) hHeld z3_ ?_; refine take_ (i := 7) (N := some 20) #[T_,T_,F_,T_,T_,T_,T_,T_,F_,F_,T_,F_,F_,F_,F_,F_] rfl rfl z4_ (fun _ _ _ h => h) (Or.inl ⟨rfl, z5_⟩) hHeld z3_ ?_; refine take_ (i := 11) (N := some 24) #[T_,T_,F_,T_,T_,T_,T_,T_,F_,F_,T_,T_,F_,F_,F_,F_] rfl rfl z4_ (fun _ _ _ h => h) (Or.inl ⟨rfl, z5_⟩) hHeld z3_ ?_; refine one_ (i := 2) (N := some 15) #[T_,T_,T_,T_,T_,T_,T_,T_,F_,F_,T_,T_,F_,F_,F_,F_] rfl rfl (one_of HT_.out y23_) y48_ (fun K hK => ?_); refine goes_ Tryz.func30 y23_ rfl #[.string ((rd_T51 l0 x8_1).f0)] (by rfl) rfl rfl y10_ ?_
      with_reducible refine (impl_NameFault.calls k1 ((rd_T51 l0 x8_1).f0) tx3 _ Ax3.out).mono ?_
      rintro e w9985327 ⟨rfl, hb⟩; refine ⟨_, rfl, ?_⟩; have n0_ := a_ (blk_below (g := gb9191860) (o := .cells #[.string ((rd_T51 l0 x8_1).f0), .string ((rd_T51 l0 x8_1).f1)] 51 (0, 0)) y53_ hb); have n1_ := a_ (below_step y17_ hb); clear BK9191860; clear HB; have BK9191860 := n0_; have HB := n1_; clear n0_ n1_; (try clear hb); (try clear hb9800335); (try clear hk); (try clear hi); refine hK.out _ _ ⟨(blk_cell BK9191860.out 0).trans rfl, (blk_cell BK9191860.out 1).trans rfl⟩ (fun hHeld => ?_); clear hK K; refine norm_ z11_ ?_; refine one_ (i := 8) (N := some 21) #[T_,T_,T_,T_,T_,T_,T_,T_,T_,F_,T_,T_,F_,F_,F_,F_] rfl rfl (one_of HT_.out y23_) y48_ (fun K hK => ?_); refine goes_ Tryz.func44 y23_ rfl #[.slice (some ad9922068) y243.length c0, .string ((rd_T51 l0 x8_1).f0)] (by rfl) rfl rfl y10_ ?_; with_reducible refine (impl_isTaken.calls k1 _ _ y243 ((rd_T51 l0 x8_1).f0) tx5 _ ?side1 ?side2 Ax5.out).mono ?_
      (case side1 => repeat (first | exact (Kd.C_below HR246.out HB.out) | (with_reducible refine Kd.C_alloc ?_ _) | (with_reducible refine Kd.C_drewN ?_ _) | (with_reducible refine Kd.C_drew ?_))); (case side2 => exact HC246.out); rintro e w9678043 ⟨rfl, hb⟩; refine ⟨_, rfl, ?_⟩; have n0_ := a_ (blk_below (g := gb9191860) (o := .cells #[.string ((rd_T51 l0 x8_1).f0), .string ((rd_T51 l0 x8_1).f1)] 51 (0, 0)) y53_ hb); have n1_ := a_ (below_step y17_ hb); clear BK9191860; clear HB; have BK9191860 := n0_; have HB := n1_; clear n0_ n1_; (try clear hb); (try clear hb9800335); (try clear hk); (try clear hi); refine hK.out _ _ ⟨(blk_cell BK9191860.out 0).trans rfl, (blk_cell BK9191860.out 1).trans rfl⟩ (fun hHeld => ?_); clear hK K; refine norm_ z12_ ?_; refine one_ (i := 9) (N := some 22) #[T_,T_,T_,T_,T_,T_,T_,T_,T_,T_,T_,T_,F_,F_,F_,F_] rfl rfl (one_of HT_.out y23_) y48_ (fun K hK => ?_); refine goes_ Tryz.func32 y23_ rfl #[.bool tx5, .int .i64 6] (by rfl) rfl rfl y10_ ?_; with_reducible refine (impl_codeIf.calls tx5 6 tx6 _ Ax6.out).mono ?_
      rintro e w' ⟨rfl, ⟨nd, rfl⟩⟩; refine ⟨_, rfl, ?_⟩; refine hK.out _ _ ⟨(blk_cell BK9191860.out 0).trans rfl, (blk_cell BK9191860.out 1).trans rfl⟩ (fun hHeld => ?_); clear hK K; refine norm_ z13_ ?_; refine one_ (i := 12) (N := some 25) #[T_,T_,T_,T_,T_,T_,T_,T_,T_,T_,T_,T_,T_,F_,F_,F_] rfl rfl (one_of HT_.out y23_) y48_ (fun K hK => ?_); refine goes_ Tryz.func45 y23_ rfl #[.string ((rd_T51 l0 x8_1).f1)] (by rfl) rfl rfl y10_ ?_; with_reducible refine (impl_valueFault.calls k1 ((rd_T51 l0 x8_1).f1) tx7 _ Ax7.out).mono ?_
      rintro e w9727099 ⟨rfl, hb⟩; refine ⟨_, rfl, ?_⟩; have n0_ := a_ (blk_below (g := gb9191860) (o := .cells #[.string ((rd_T51 l0 x8_1).f0), .string ((rd_T51 l0 x8_1).f1)] 51 (0, 0)) y53_ hb); have n1_ := a_ (below_step y17_ hb); clear BK9191860; clear HB; have BK9191860 := n0_; have HB := n1_; clear n0_ n1_; (try clear hb); (try clear hb9800335); (try clear hk); (try clear hi); refine hK.out _ _ ⟨(blk_cell BK9191860.out 0).trans rfl, (blk_cell BK9191860.out 1).trans rfl⟩ (fun hHeld => ?_); clear hK K; refine norm_ z14_ ?_; refine one_ (i := 13) (N := some 26) #[T_,T_,T_,T_,T_,T_,T_,T_,T_,T_,T_,T_,T_,T_,F_,F_] rfl rfl (one_of HT_.out y23_) y48_ (fun K hK => ?_); refine Kd.R_lit_step (Kd.int .i64) _ 2 ?hg (N := 26) ?hd (xs := ([tx3, tx6, tx7] : List Int)) (inner := [.int .i64 tx3, .int .i64 tx6, .int .i64 tx7]) (ok := fun _ => True) (okp := fun _ => True) ?hr ?hp (fun _ hk => hk) trivial (Below.refl _ _) (Nat.le_refl _) y50_ ?_; (case hd => rfl); (case hg => rfl); (case hr => first | (go_simp; done) | (go_simp; rfl)); (case hp => exact (Reps.one (show Kd.M (Kd.int .i64) _ _ _ tx3 [.int .i64 tx3] from rfl) (Reps.one (show Kd.M (Kd.int .i64) _ _ _ tx6 [.int .i64 tx6] from rfl) (Reps.one (show Kd.M (Kd.int .i64) _ _ _ tx7 [.int .i64 tx7] from rfl) (Reps.none _ _))))); intro v9383567 w9760125 ho9788420 hb hg_ hnew_; clear hg_ hnew_; (first | rw [← Ny250.out] at ho9788420 | (simp only [Int.reduceToNat] at ho9788420; rw [← Ny250.out] at ho9788420)); have n0_ := a_ (Kd.R_lower ho9788420 (below_size y17_)); have n1_ := a_ (blk_below (g := gb9191860) (o := .cells #[.string ((rd_T51 l0 x8_1).f0), .string ((rd_T51 l0 x8_1).f1)] 51 (0, 0)) y53_ hb); have n2_ := a_ (below_step y17_ hb); clear BK9191860; clear HB; have HO9369609 := n0_; have BK9191860 := n1_; have HB := n2_; clear n0_ n1_ n2_; clear hb ho9788420; obtain ⟨Ao9997294, co9997294, eo9997294⟩ := Kd.R_slice HO9369609.out; (first | subst eo9997294 | (injection eo9997294 with f1_ f2_ f3_; have f4_ := f1_.symm; have f5_ := f3_.symm; clear f1_ f2_ f3_; subst f4_; subst f5_))
      refine hK.out _ _ ⟨(blk_cell BK9191860.out 0).trans rfl, (blk_cell BK9191860.out 1).trans rfl⟩ (fun hHeld => ?_); clear hK K; refine norm_ z15_ ?_; refine one_ (i := 14) (N := some 27) #[T_,T_,T_,T_,T_,T_,T_,T_,T_,T_,T_,T_,T_,T_,T_,F_] rfl rfl (one_of HT_.out y23_) y48_ (fun K hK => ?_); refine goes_ Tryz.func29 y23_ rfl #[.slice Ao9997294 y250.length co9997294] (by rfl) rfl rfl y10_ ?_; with_reducible refine (impl_firstCode.calls k1 _ _ y250 tx8 _ ?side1 ?side2 Ax8.out).mono ?_
      (case side1 => repeat (first | exact (Kd.R_reads' HO9369609.out).2.2 | (with_reducible refine Kd.C_alloc ?_ _) | (with_reducible refine Kd.C_drewN ?_ _) | (with_reducible refine Kd.C_drew ?_))); (case side2 => exact (Kd.R_reads' HO9369609.out).2.1); rintro e w' ⟨rfl, ⟨nd, rfl⟩⟩; refine ⟨_, rfl, ?_⟩; refine hK.out _ _ ⟨(blk_cell BK9191860.out 0).trans rfl, (blk_cell BK9191860.out 1).trans rfl⟩ (fun hHeld => ?_); clear hK K; refine norm_ z16_ ?_; refine pure_ (i := 15) (N := some 5) #[T_,T_,T_,T_,T_,T_,T_,T_,T_,T_,T_,T_,T_,T_,T_,T_] rfl rfl z1_ (fun _ _ _ h => h) (Or.inl ⟨rfl, z2_⟩) z3_ ?_; refine done_ (done_of HT_.out y23_) ?_; try go_wp2)
    first
    | fail_if_success clear m0_4
    |(clear m0_4; go_roundg k1
      case measure => have := HK1.out; omega
      case rel => exact ⟨(wrap64 (x8_1 + 1)), y2_, H', ⟨y29_⟩, ⟨y17_⟩⟩)
    first
    | fail_if_success clear m0_5
    |(clear m0_5; go_ret
      exact ⟨y6_, y17_⟩)
    first
    | fail_if_success clear m0_6
    |(clear m0_6; go_wp2
      go_ret
      exact ⟨y6_, y0_⟩))

end Go.Proofs.YthoamjobclfjjaaGreat.R
