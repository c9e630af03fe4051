-- Written by a program of this session's own (xp.py) for this seat.
import Derived.Test.YtjbcpghpafacaaaIZ
import Derived.Test.YtjbcpghpafacaaaI0
import Derived.Test.YtjbcpghpafacaaaI11
namespace Go.Proofs.Ytjbcpghpafacaaa.I
open Go.RowKit Go.Proofs.YtjbcpghpafacaaaW.PrintWords Go.Proofs.YtjbcpghpafacaaaW.PrintLast Go.Proofs.YtjbcpghpafacaaaW.PrintMore
attribute [local go_sem] Instr.field asAgg
attribute [local go_sem] max2_int min2_int max_two min_two max_three min_three max_four min_four   -- for this text's walks alone
set_option linter.unusedVariables false
set_option linter.unusedSimpArgs false

/-! ### impl_parents_last: function 51 -/
def impl_parents_last.f (l0_0 : List Int) (l0_1 : List Int) : Option (Int × List Int × List Int) := if 0 ≤ (wrap64 ((l0_1.length : Int) - 1)) then (if (wrap64 ((l0_1.length : Int) - 1)) < (l0_1.length : Int) then (some (rd l0_1 (wrap64 ((l0_1.length : Int) - 1)), l0_0, l0_1)) else (none)) else (none)
set_option maxHeartbeats 8000000 in
set_option maxRecDepth 100000 in
theorem impl_parents_last.calls (gp0 : Nat) (P0_0_ : Nat → Prop) (u9000_ : Value) (l0_0 : List Int) (P0_1_ : Nat → Prop) (u9001_ : Value) (l0_1 : List Int) (r1 : Int) (r2 : List Int) (r3 : List Int) (w0 w : World) (hB : Below w0.heap.size w0 w) (hbx : w.heap[gp0]? = some (.cells #[u9000_, u9001_] 60 (0, 0))) (hge : w0.heap.size ≤ gp0) (ho0_0 : Kd.R (Kd.int .i64) 2 w w0.heap.size P0_0_ u9000_ l0_0) (hp0_0_0_1 : ∀ k_, P0_0_ k_ → ¬ P0_1_ k_) (ho0_1 : Kd.R (Kd.int .i64) 2 w w0.heap.size P0_1_ u9001_ l0_1) (hp0_1_0_0 : ∀ k_, P0_1_ k_ → ¬ P0_0_ k_) (h : impl_parents_last.f l0_0 l0_1 = some (r1, r2, r3)) :
    Calls Try.prog 51 #[.pointer (some ⟨gp0, 0, none⟩)] w fun e w' => ∃ v1_ v2_ : Value, e = .returned (.int .i64 r1) ∧ Kd.R (Kd.int .i64) 2 w' w0.heap.size (fun k_ => ((P0_0_ k_ ∨ P0_1_ k_) ∨ w.heap.size ≤ k_) ∧ some k_ ≠ (v2_ : Value).ownBlock) v1_ r2 ∧ Kd.R (Kd.int .i64) 2 w' w0.heap.size (fun k_ => ((P0_0_ k_ ∨ P0_1_ k_) ∨ w.heap.size ≤ k_) ∧ some k_ ≠ (v1_ : Value).ownBlock) v2_ r3 ∧ w'.heap[gp0]? = some (.cells #[v1_, v2_] 60 (0, 0)) ∧ Below w0.heap.size w0 w' ∧ Kept w w' (fun k_ => (P0_0_ k_ ∨ P0_1_ k_) ∨ k_ = gp0) := by
 have HO0_0 := a_ (show Kd.R (Kd.int .i64) 2 w w0.heap.size (fun k_ => ((P0_0_ k_ ∨ P0_1_ k_) ∨ w.heap.size ≤ k_) ∧ some k_ ≠ (u9001_ : Value).ownBlock) u9000_ l0_0 from Kd.R_mono ho0_0 (fun k_ hk => ⟨(.inl (.inl hk)), fun e_ => hp0_0_0_1 k_ hk (ho0_1.1 k_ e_.symm)⟩)); have HO0_1 := a_ (show Kd.R (Kd.int .i64) 2 w w0.heap.size (fun k_ => ((P0_0_ k_ ∨ P0_1_ k_) ∨ w.heap.size ≤ k_) ∧ some k_ ≠ (u9000_ : Value).ownBlock) u9001_ l0_1 from Kd.R_mono ho0_1 (fun k_ hk => ⟨(.inl (.inr hk)), fun e_ => hp0_1_0_0 k_ hk (ho0_0.1 k_ e_.symm)⟩)); have HK := a_ (Kept.refl w (fun k_ => (P0_0_ k_ ∨ P0_1_ k_) ∨ k_ = gp0)); have BK0 := a_ hbx; have GE0 := a_ hge; clear hbx hge; have HW0 := a_ hB.size; have HB := a_ hB; clear hB; have H : (if 0 ≤ (wrap64 ((l0_1.length : Int) - 1)) then (if (wrap64 ((l0_1.length : Int) - 1)) < (l0_1.length : Int) then (some (rd l0_1 (wrap64 ((l0_1.length : Int) - 1)), l0_0, l0_1)) else (none)) else (none)) = some (r1, r2, r3) := h; clear h; obtain ⟨ji2, hji2⟩ : ∃ j_ : Int, (wrap64 ((l0_1.length : Int) - 1)) = j_ := ⟨_, rfl⟩; replace H : (if 0 ≤ (ji2) then (if (ji2) < (l0_1.length : Int) then (some (rd l0_1 (ji2), l0_0, l0_1)) else (none)) else (none)) = some (r1, r2, r3) := by first | (rw [hji2] at H; exact H) | (simp only [hji2] at H ⊢; exact H)
 have hji2w : (IntKind.i64.wrap ((l0_1.length : Int) - 1)) = ji2 := (i64_w _).trans hji2; by_cases c3 : 0 ≤ (ji2)
 ·rw [if_pos c3] at H; have c3b0 : decide (0 ≤ (ji2)) = true := decide_eq_true c3; clear c3; by_cases c4 : (ji2) < (l0_1.length : Int)
  ·rw [if_pos c4] at H; have c4b0 : decide ((ji2) < (l0_1.length : Int)) = true := decide_eq_true c4; clear c4; simp only [Option.some.injEq, Prod.mk.injEq] at H; obtain ⟨rfl, rfl, rfl⟩ := H; have hcz5_0 : w.cell? ⟨gp0, 0, none⟩ = some (u9000_) := (blk_cell BK0.out 0).trans rfl; have hcz5_1 : w.cell? ⟨gp0, 1, none⟩ = some (u9001_) := (blk_cell BK0.out 1).trans rfl; have hfz5_0 := blk_frozen BK0.out 0; have hfz5_1 := blk_frozen BK0.out 1; obtain ⟨Ao6, co6, eo6⟩ := Kd.R_slice HO0_1.out; subst eo6; have p338 : 0 ≤ ((ji2) : Int) := of_decide_eq_true y2_; have q338 : (ji2) < (l0_1.length : Int) := of_decide_eq_true y2_; obtain ⟨ad338, e338, hx338_0⟩ := Kd.at_int (Kd.R_reads' HO0_1.out).2.2 (ji2) p338 q338; cases e338; replace p338 := eq_true p338; replace q338 := eq_true q338; go_enter Try.func51, Try.ntmps51
   go_wp2
   repeat (go_quiet (fail); try go_wp2)
   go_ret
   exact ⟨_, _, by first | rfl | (simp [errW_none, errW_some] <;> rfl) | (simp only [← hji2]; first | rfl | (simp [errW_none, errW_some] <;> rfl)) | (simp [*, errW_none, errW_some] <;> rfl), y73_, y74_, y12_, y3_, y5_⟩
  ·rw [if_neg c4] at H; exact absurd H y57_
 ·rw [if_neg c3] at H; exact absurd H y57_

-- NOT PRINTED: function 61 (impl_areAll)

/-! ### impl_isSmall: function 62 -/
def impl_isSmall.f (a0 : Int) : Option (Bool) := if a0 ≥ 97 then (some (decide (a0 ≤ 122))) else (some false)
set_option maxHeartbeats 8000000 in
set_option maxRecDepth 100000 in
theorem impl_isSmall.calls (a0 : Int) (r : Bool) (w : World) (h : impl_isSmall.f a0 = some r) :
    Calls Try.prog 62 #[.int .u8 a0] w fun e w' => e = .returned (.bool r) ∧ Drawn0 w w' := by
 have H : (if a0 ≥ 97 then (some (decide (a0 ≤ 122))) else (some false)) = some r := h; clear h; by_cases c2 : a0 ≥ 97
 ·rw [if_pos c2] at H; have c2b0 : decide (97 ≤ a0) = true := decide_eq_true c2; clear c2; obtain rfl := Option.some.inj H; go_enter Try.func62, Try.ntmps62
  go_wp2
  go_ret
  exact ⟨y1_, y9_⟩
 ·rw [if_neg c2] at H; have c2b0 : decide (97 ≤ a0) = false := decide_eq_false c2; clear c2; obtain rfl := Option.some.inj H; go_enter Try.func62, Try.ntmps62
  go_wp2
  go_ret
  exact ⟨y1_, y9_⟩

/-! ### impl_areAll__impl_isSmall: function 83 -/
def impl_areAll__impl_isSmall.l0 : Nat → ByteArray → Int → Int → Option (Bool)
  | 0, _, _, _ => none
  | k + 1, x0, x7, x8 => if x8 < x7 then (if 0 ≤ x8 then (if x8 < (x0.size : Int) then ((impl_isSmall.f (bt x0 x8)).bind fun t339 => (if t339 = true then (impl_areAll__impl_isSmall.l0 k x0 x7 (wrap64 (x8 + 1))) else (some false))) else (none)) else (none)) else (some true)
def impl_areAll__impl_isSmall.f (k : Nat) (a0 : ByteArray)  : Option (Bool) := impl_areAll__impl_isSmall.l0 k a0 (a0.size : Int) 0
theorem impl_areAll__impl_isSmall.mono_l : ∀ k, (∀ y0 y1 y2, LeO (impl_areAll__impl_isSmall.l0 k y0 y1 y2) (impl_areAll__impl_isSmall.l0 (k + 1) y0 y1 y2))
  | 0 => fun _ _ _ r h => by simp [impl_areAll__impl_isSmall.l0] at h
  | k + 1 => by
    have ih0 := impl_areAll__impl_isSmall.mono_l k
    · intro y0 y1 y2
      unfold impl_areAll__impl_isSmall.l0
      repeat' (with_reducible first | exact ih0 _ _ _ | exact LeO.refl _ | exact LeO.none _ | refine LeO.ite ?_ ?_ | refine LeO.bind ?_ (fun _ => ?_))
theorem impl_areAll__impl_isSmall.mono : ∀ a0 k, LeO (impl_areAll__impl_isSmall.f k a0) (impl_areAll__impl_isSmall.f (k + 1) a0) := by
  intro a0 k
  have ih0 := impl_areAll__impl_isSmall.mono_l k
  unfold impl_areAll__impl_isSmall.f
  repeat' (with_reducible first | exact ih0 _ _ _ | exact LeO.refl _ | exact LeO.none _ | refine LeO.ite ?_ ?_ | refine LeO.bind ?_ (fun _ => ?_))
set_option maxHeartbeats 8000000 in
set_option maxRecDepth 100000 in
theorem impl_areAll__impl_isSmall.calls (k : Nat) (a0 : ByteArray)  (r : Bool) (w : World) (h : impl_areAll__impl_isSmall.f k a0 = some r) :
    Calls Try.prog 61 #[.string a0, .func (.func 62) #[] #[]] w fun e w' => e = .returned (.bool r) ∧ Drawn0 w w' := by
 have H : (impl_areAll__impl_isSmall.l0 k a0 (a0.size : Int) 0) = some r := h; clear h; have H' := a_ H; clear H; go_enter Try.func61, Try.ntmps61
 go_wp2
 go_loopg [8] k (fun kq v8 w' => ∃ (x8_1 : Int), v8 = .int .i64 x8_1 ∧ Aside0 (impl_areAll__impl_isSmall.l0 kq a0 (a0.size : Int) x8_1 = some r) ∧ Aside0 (kq ≤ k) ∧ Drawn0 w w')
 case atStart => exact ⟨(0), y1_, H', ⟨Nat.le_refl _⟩, y9_⟩
 case round =>
  clear H'; obtain ⟨x8_1, rfl, HA, HK1, ⟨m1, rfl⟩⟩ := hrel; cases gk with
  | zero => exact absurd HA.out (by simp [impl_areAll__impl_isSmall.l0])
  | succ k1 =>
   have H := HA.out; clear HA; simp only [impl_areAll__impl_isSmall.l0] at H; by_cases cx0 : x8_1 < (a0.size : Int); rw [if_pos cx0] at H; have cx0b0 : decide (x8_1 < (a0.size : Int)) = true := decide_eq_true cx0; clear cx0; by_cases cx1 : 0 ≤ x8_1; rw [if_pos cx1] at H; have cx1b0 : decide (0 ≤ x8_1) = true := decide_eq_true cx1; clear cx1; by_cases cx2 : x8_1 < (a0.size : Int); rw [if_pos cx2] at H; have cx2b0 : decide (x8_1 < (a0.size : Int)) = true := decide_eq_true cx2; clear cx2; replace H := Option.bind_eq_some_iff.mp H; obtain ⟨tx3, Ay3, H⟩ := H; have Ax3 := a_ Ay3; clear Ay3; by_cases cx4 : tx3 = true; subst cx4; rw [if_pos rfl] at H; have H' := a_ H; clear H; have m0_0 := t_; have m0_1 := t_; rotate_left; replace cx4 := Bool.eq_false_iff.mpr cx4; subst cx4; rw [if_neg (show ¬ (false = true) by decide)] at H; obtain rfl := Option.some.inj H; have m0_0 := t_; have m0_2 := t_; rotate_left
   ·rw [if_neg cx2] at H; exact absurd H y57_
   ·rw [if_neg cx1] at H; exact absurd H y57_
   rw [if_neg cx0] at H; have cx0b0 : decide (x8_1 < (a0.size : Int)) = false := decide_eq_false cx0; clear cx0; obtain rfl := Option.some.inj H; have m0_3 := t_; rotate_left
   all_goals (
    first
    | fail_if_success clear m0_0
    |(clear m0_0; have p9922068 : 0 ≤ (x8_1 : Int) := of_decide_eq_true y2_; have q9922068 : x8_1 < (a0.size : Int) := of_decide_eq_true y2_; have hx9922068 := bt_at a0 x8_1; replace p9922068 := eq_true p9922068; replace q9922068 := eq_true q9922068; go_wp2_with (first | ((with_reducible refine gate_dyn (t := 11) rfl ?_); refine goesV_ (some 15) rfl rfl Try.func62 y38_ rfl #[.int .u8 (bt a0 x8_1)] rfl (by (try simp only [List.map_toArray, List.map_cons, List.map_nil]); first | done | rfl | (simp only [List.length_drop, List.length_take]; rfl) | (go_simp; done) | (simp [Act.eval, bne]; done)) ?_; (with_reducible refine (impl_isSmall.calls (bt a0 x8_1) _ _ Ax3.out).mono ?_); rintro e w' ⟨rfl, ⟨nd, rfl⟩⟩; refine ⟨_, rfl, ?_⟩)))
    first
    | fail_if_success clear m0_1
    |(clear m0_1; go_roundg k1
      case measure => have := HK1.out; omega
      case rel => exact ⟨(wrap64 (x8_1 + 1)), y1_, H', ⟨y72_⟩, y9_⟩)
    first
    | fail_if_success clear m0_2
    |(clear m0_2; go_ret
      exact ⟨y1_, y9_⟩)
    first
    | fail_if_success clear m0_3
    |(clear m0_3; go_wp2
      go_ret
      exact ⟨y1_, y9_⟩))

/-! ### impl_NameFault: function 52 -/
def impl_NameFault.f (k : Nat) (a0 : ByteArray) : Option (Int) := if a0.toList = ([] : List UInt8) then ((impl_codeIf.f true 5).bind fun t339 => ((impl_codeIf.f (decide ((a0.size : Int) > 8)) 2).bind fun t340 => ((impl_firstCode.f k (([t339, t340] : List Int))).bind fun t344 => (some t344)))) else ((impl_areAll__impl_isSmall.f k a0).bind fun t345 => ((impl_codeIf.f (!t345) 5).bind fun t346 => ((impl_codeIf.f (decide ((a0.size : Int) > 8)) 2).bind fun t347 => ((impl_firstCode.f k (([t346, t347] : List Int))).bind fun t351 => (some t351)))))
theorem impl_NameFault.mono : ∀ a0 k, LeO (impl_NameFault.f k a0) (impl_NameFault.f (k + 1) a0) := by
  intro a0 k
  unfold impl_NameFault.f
  repeat' (with_reducible first | exact impl_areAll__impl_isSmall.mono _ _ | exact impl_firstCode.mono _ _ | exact LeO.refl _ | exact LeO.none _ | refine LeO.ite ?_ ?_ | refine LeO.bind ?_ (fun _ => ?_))
set_option maxHeartbeats 8000000 in
set_option maxRecDepth 100000 in
theorem impl_NameFault.calls (k : Nat) (a0 : ByteArray) (r : Int) (w : World) (h : impl_NameFault.f k a0 = some r) :
    Calls Try.prog 52 #[.string a0] w fun e w' => e = .returned (.int .i64 r) ∧ Below w.heap.size w w' := by
 have HB := a_ (Below.refl w.heap.size w); have H : (if a0.toList = ([] : List UInt8) then ((impl_codeIf.f true 5).bind fun t339 => ((impl_codeIf.f (decide ((a0.size : Int) > 8)) 2).bind fun t340 => ((impl_firstCode.f k (([t339, t340] : List Int))).bind fun t344 => (some t344)))) else ((impl_areAll__impl_isSmall.f k a0).bind fun t345 => ((impl_codeIf.f (!t345) 5).bind fun t346 => ((impl_codeIf.f (decide ((a0.size : Int) > 8)) 2).bind fun t347 => ((impl_firstCode.f k (([t346, t347] : List Int))).bind fun t351 => (some t351)))))) = some r := h; clear h; by_cases cx0 : a0.toList = ([] : List UInt8)
 ·rw [if_pos cx0] at H; have cx0b0 : (a0.toList == ([] : List UInt8)) = true := beq_iff_eq.mpr cx0; have cx0b1 : (a0.toList != ([] : List UInt8)) = false := bne_eq_false_iff_eq.mpr cx0; clear cx0; replace H := Option.bind_eq_some_iff.mp H; obtain ⟨tx1, Ay1, H⟩ := H; have Ax1 := a_ Ay1; clear Ay1; replace H := Option.bind_eq_some_iff.mp H; obtain ⟨tx2, Ay2, H⟩ := H; have Ax2 := a_ Ay2; clear Ay2; obtain ⟨y341, hy_⟩ : ∃ y_ : List Int, y_ = (([tx1, tx2] : List Int)) := ⟨_, rfl⟩; replace H : ((impl_firstCode.f k y341).bind fun t344 => (some t344)) = some r := z0_; have Ny341 := a_ hy_; clear hy_; replace H := Option.bind_eq_some_iff.mp H; obtain ⟨tx3, Ay3, H⟩ := H; have Ax3 := a_ Ay3; clear Ay3; obtain rfl := Option.some.inj H; go_enter Try.func52, Try.ntmps52
  go_wp2_with (first | ((with_reducible refine gate_callee (f := 49) rfl ?_); refine gc_ 49 10 Try.func49 #[.bool true, .int .i64 5] ?_; (with_reducible refine (impl_codeIf.calls true 5 tx1 _ Ax1.out).mono ?_); rintro e w' ⟨rfl, ⟨nd, rfl⟩⟩; refine ⟨_, rfl, ?_⟩) | ((with_reducible refine gate_callee (f := 49) rfl ?_); refine gc_ 49 14 Try.func49 #[.bool (decide ((a0.size : Int) > 8)), .int .i64 2] ?_; (with_reducible refine (impl_codeIf.calls (decide ((a0.size : Int) > 8)) 2 tx2 _ Ax2.out).mono ?_); rintro e w' ⟨rfl, ⟨nd, rfl⟩⟩; refine ⟨_, rfl, ?_⟩) | ((with_reducible refine gate_dst (N := 15) rfl ?_); refine Kd.R_lit (Kd.int .i64) _ 2 ?hg (N := 15) ?hd (xs := ([tx1, tx2] : List Int)) (inner := [.int .i64 tx1, .int .i64 tx2]) (ok := fun _ => True) (okp := fun _ => True) ?hr ?hp (fun _ hk => hk) trivial (Below.refl _ _) (Nat.le_refl _) y57_ ?_; (case hd => rfl); (case hg => rfl); (case hr => first | (go_simp; done) | (go_simp; rfl)); (case hp => exact (Reps.one (show Kd.M (Kd.int .i64) _ _ _ tx1 [.int .i64 tx1] from rfl) (Reps.one (show Kd.M (Kd.int .i64) _ _ _ tx2 [.int .i64 tx2] from rfl) (Reps.none _ _)))); intro v342 w6 ho7 hb hg_ hnew_; clear hg_ hnew_; (first | rw [← Ny341.out] at ho7 | (simp only [Int.reduceToNat] at ho7; rw [← Ny341.out] at ho7)); have n0_ := a_ (Kd.R_lower ho7 (below_size y0_)); have n1_ := a_ (below_step y0_ hb); clear HB; have HO343 := n0_; have HB := n1_; clear n0_ n1_; clear hb ho7; obtain ⟨Ao8, co8, eo8⟩ := Kd.R_slice HO343.out; subst eo8) | ((with_reducible refine gate_callee (f := 32) rfl ?_); refine gc_ 32 16 Try.func32 #[.slice Ao8 y341.length co8] ?_; (with_reducible refine (impl_firstCode.calls k _ _ y341 tx3 _ ?side1 ?side2 Ax3.out).mono ?_); (case side1 => repeat (first | exact (Kd.R_reads' HO343.out).2.2 | (with_reducible refine Kd.C_alloc ?_ _) | (with_reducible refine Kd.C_drewN ?_ _) | (with_reducible refine Kd.C_drew ?_))); (case side2 => exact (Kd.R_reads' HO343.out).2.1); rintro e w' ⟨rfl, ⟨nd, rfl⟩⟩; refine ⟨_, rfl, ?_⟩))
  go_ret
  exact ⟨y4_, y0_⟩
 ·rw [if_neg cx0] at H; have cx0b0 : (a0.toList == ([] : List UInt8)) = false := beq_eq_false_iff_ne.mpr cx0; have cx0b1 : (a0.toList != ([] : List UInt8)) = true := bne_iff_ne.mpr cx0; replace H := Option.bind_eq_some_iff.mp H; obtain ⟨tx1, Ay1, H⟩ := H; have Ax1 := a_ Ay1; clear Ay1; replace H := Option.bind_eq_some_iff.mp H; obtain ⟨tx2, Ay2, H⟩ := H; have Ax2 := a_ Ay2; clear Ay2; replace H := Option.bind_eq_some_iff.mp H; obtain ⟨tx3, Ay3, H⟩ := H; have Ax3 := a_ Ay3; clear Ay3; obtain ⟨y348, hy_⟩ : ∃ y_ : List Int, y_ = (([tx2, tx3] : List Int)) := ⟨_, rfl⟩; replace H : ((impl_firstCode.f k y348).bind fun t351 => (some t351)) = some r := z0_; have Ny348 := a_ hy_; clear hy_; replace H := Option.bind_eq_some_iff.mp H; obtain ⟨tx4, Ay4, H⟩ := H; have Ax4 := a_ Ay4; clear Ay4; obtain rfl := Option.some.inj H; go_enter Try.func52, Try.ntmps52
  go_wp2_with (first | (go_at_call 61; (with_reducible refine (impl_areAll__impl_isSmall.calls k a0  tx1 _ Ax1.out).mono ?_); rintro e w' ⟨rfl, ⟨nd, rfl⟩⟩) | ((with_reducible refine gate_callee (f := 49) rfl ?_); refine gc_ 49 10 Try.func49 #[.bool (!tx1), .int .i64 5] ?_; (with_reducible refine (impl_codeIf.calls (!tx1) 5 tx2 _ Ax2.out).mono ?_); rintro e w' ⟨rfl, ⟨nd, rfl⟩⟩; refine ⟨_, rfl, ?_⟩) | ((with_reducible refine gate_callee (f := 49) rfl ?_); refine gc_ 49 14 Try.func49 #[.bool (decide ((a0.size : Int) > 8)), .int .i64 2] ?_; (with_reducible refine (impl_codeIf.calls (decide ((a0.size : Int) > 8)) 2 tx3 _ Ax3.out).mono ?_); rintro e w' ⟨rfl, ⟨nd, rfl⟩⟩; refine ⟨_, rfl, ?_⟩) | ((with_reducible refine gate_dst (N := 15) rfl ?_); refine Kd.R_lit (Kd.int .i64) _ 2 ?hg (N := 15) ?hd (xs := ([tx2, tx3] : List Int)) (inner := [.int .i64 tx2, .int .i64 tx3]) (ok := fun _ => True) (okp := fun _ => True) ?hr ?hp (fun _ hk => hk) trivial (Below.refl _ _) (Nat.le_refl _) y57_ ?_; (case hd => rfl); (case hg => rfl); (case hr => first | (go_simp; done) | (go_simp; rfl)); (case hp => exact (Reps.one (show Kd.M (Kd.int .i64) _ _ _ tx2 [.int .i64 tx2] from rfl) (Reps.one (show Kd.M (Kd.int .i64) _ _ _ tx3 [.int .i64 tx3] from rfl) (Reps.none _ _)))); intro v349 w13 ho14 hb hg_ hnew_; clear hg_ hnew_; (first | rw [← Ny348.out] at ho14 | (simp only [Int.reduceToNat] at ho14; rw [← Ny348.out] at ho14)); have n0_ := a_ (Kd.R_lower ho14 (below_size y0_)); have n1_ := a_ (below_step y0_ hb); clear HB; have HO350 := n0_; have HB := n1_; clear n0_ n1_; clear hb ho14; obtain ⟨Ao15, co15, eo15⟩ := Kd.R_slice HO350.out; subst eo15) | ((with_reducible refine gate_callee (f := 32) rfl ?_); refine gc_ 32 16 Try.func32 #[.slice Ao15 y348.length co15] ?_; (with_reducible refine (impl_firstCode.calls k _ _ y348 tx4 _ ?side1 ?side2 Ax4.out).mono ?_); (case side1 => repeat (first | exact (Kd.R_reads' HO350.out).2.2 | (with_reducible refine Kd.C_alloc ?_ _) | (with_reducible refine Kd.C_drewN ?_ _) | (with_reducible refine Kd.C_drew ?_))); (case side2 => exact (Kd.R_reads' HO350.out).2.1); rintro e w' ⟨rfl, ⟨nd, rfl⟩⟩; refine ⟨_, rfl, ?_⟩))
  go_ret
  exact ⟨y4_, y0_⟩

/-! ### impl_isTwo: function 64 -/
def impl_isTwo.f (a0 : Int) : Option (Bool) := (impl_inRange.f a0 3 9).bind fun t352 => (some t352)
set_option maxHeartbeats 8000000 in
set_option maxRecDepth 100000 in
theorem impl_isTwo.calls (a0 : Int) (r : Bool) (w : World) (h : impl_isTwo.f a0 = some r) :
    Calls Try.prog 64 #[.int .i64 a0] w fun e w' => e = .returned (.bool r) ∧ Drawn0 w w' := by
 have H : ((impl_inRange.f a0 3 9).bind fun t352 => (some t352)) = some r := h; clear h; replace H := Option.bind_eq_some_iff.mp H; obtain ⟨t352, A20, H⟩ := H; have A2 := a_ A20; clear A20; obtain rfl := Option.some.inj H; go_enter Try.func64, Try.ntmps64
 go_wp2_with (first | ((with_reducible refine gate_callee (f := 29) rfl ?_); refine gc_ 29 4 Try.func29 #[.int .i64 a0, .int .i64 3, .int .i64 9] ?_; (with_reducible refine (impl_inRange.calls a0 3 9 t352 _ A2.out).mono ?_); rintro e w' ⟨rfl, ⟨nd, rfl⟩⟩; refine ⟨_, rfl, ?_⟩))
 go_ret
 exact ⟨y1_, y9_⟩

end Go.Proofs.Ytjbcpghpafacaaa.I
