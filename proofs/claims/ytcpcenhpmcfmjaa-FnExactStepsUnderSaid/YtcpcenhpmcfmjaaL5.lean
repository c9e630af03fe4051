-- Written by a program of this session's own (xp.py) for this seat.
import Derived.Test.YtcpcenhpmcfmjaaLZ
import Derived.Test.YtcpcenhpmcfmjaaL0
import Derived.Test.YtcpcenhpmcfmjaaL3
import Derived.Test.YtcpcenhpmcfmjaaL4
namespace Go.Proofs.Ytcpcenhpmcfmjaa.L
open Go.RowKit Go.Proofs.YtcpcenhpmcfmjaaW.PrintWords Go.Proofs.YtcpcenhpmcfmjaaW.PrintLast Go.Proofs.YtcpcenhpmcfmjaaW.PrintMore
attribute [local go_sem] Instr.field asAgg
attribute [local go_sem] max2_int min2_int max_two min_two max_three min_three max_four min_four   -- for this text's walks alone
set_option linter.unusedVariables false
set_option linter.unusedSimpArgs false

/-! ### spec_l3Walk: function 130 -/
mutual
def spec_l3Walk.j0 : Nat → List (S139) → Int → List Int → Option (List Int)
  | 0, _, _, _ => none
  | k + 1, x0, x1, x2 => if 0 ≤ x1 then (if x1 < (x0.length : Int) then ((spec_l3Two.f ((rd_T139 x0 x1).f0)).bind fun t197 => (if t197 = true then ((spec_l3Walk.f k x0 ((rd_T139 x0 x1).f3) x2).bind fun t199 => (if t199.length < 17592186044416 then (some (t199 ++ [x1])) else (none))) else (if x2.length < 17592186044416 then (some (x2 ++ [x1])) else (none)))) else (none)) else (none)
def spec_l3Walk.f : Nat → List (S139) → Int → List Int → Option (List Int)
  | 0, _, _, _ => none
  | k + 1, l0, a1, l2 => if (l2.length : Int) > 16 then (some l2) else (if 0 ≤ a1 then (if a1 < (l0.length : Int) then (if ((rd_T139 l0 a1).f0) > 2 then ((spec_l3Walk.f k l0 ((rd_T139 l0 a1).f2) l2).bind fun t193 => (spec_l3Walk.j0 k l0 a1 t193)) else (spec_l3Walk.j0 k l0 a1 l2)) else (none)) else (none))
end
theorem spec_l3Walk.mono_l : ∀ k, (∀ y0 y1 y2, LeO (spec_l3Walk.f k y0 y1 y2) (spec_l3Walk.f (k + 1) y0 y1 y2)) ∧ (∀ y0 y1 y2, LeO (spec_l3Walk.j0 k y0 y1 y2) (spec_l3Walk.j0 (k + 1) y0 y1 y2))
  | 0 => ⟨fun _ _ _ r h => by simp [spec_l3Walk.f] at h, fun _ _ _ r h => by simp [spec_l3Walk.j0] at h⟩
  | k + 1 => by
    obtain ⟨ih0, ih1⟩ := spec_l3Walk.mono_l k
    refine ⟨?_, ?_⟩
    · intro y0 y1 y2
      unfold spec_l3Walk.f
      repeat' (with_reducible first | exact ih0 _ _ _ | exact ih1 _ _ _ | exact LeO.refl _ | exact LeO.none _ | refine LeO.ite ?_ ?_ | refine LeO.bind ?_ (fun _ => ?_))
    · intro y0 y1 y2
      unfold spec_l3Walk.j0
      repeat' (with_reducible first | exact ih0 _ _ _ | exact ih1 _ _ _ | exact LeO.refl _ | exact LeO.none _ | refine LeO.ite ?_ ?_ | refine LeO.bind ?_ (fun _ => ?_))
theorem spec_l3Walk.mono : ∀ a0 a1 a2 k, LeO (spec_l3Walk.f k a0 a1 a2) (spec_l3Walk.f (k + 1) a0 a1 a2) := by
  intro a0 a1 a2 k
  obtain ⟨ih0, ih1⟩ := spec_l3Walk.mono_l k
  exact ih0 a0 a1 a2
set_option maxHeartbeats 8000000 in
set_option maxRecDepth 100000 in
theorem spec_l3Walk.calls (k : Nat) : ∀ (A0 : Option Addr) (c0 : Nat) (l0 : List (S139)) (a1 : Int) (P2_ : Nat → Prop) (u9000_ : Value) (l2 : List Int) (r : List Int) (w0 w : World) (hB : Below w0.heap.size w0 w) (hr0 : ∀ W_, Kept w W_ (fun k_ => P2_ k_) → Kd.C k139 W_ A0 l0.length l0) (hc0 : l0.length ≤ c0) (ho2 : Kd.R (Kd.int .i64) 2 w w0.heap.size P2_ u9000_ l2) (h : spec_l3Walk.f k l0 a1 l2 = some r),
    Calls Try.prog 130 #[.slice A0 l0.length c0, .int .i64 a1, u9000_] w fun e w' => ∃ v0_ : Value, e = .returned (v0_) ∧ Kd.R (Kd.int .i64) 2 w' w0.heap.size (fun k_ => (P2_ k_ ∨ w.heap.size ≤ k_)) v0_ r ∧ Below w0.heap.size w0 w' ∧ Kept w w' (fun k_ => P2_ k_) := by
 induction k using Nat.strongRecOn with
 | _ k ih =>
 intro A0 c0 l0 a1 P2_ u9000_ l2 r w0 w hB hr0 hc0 ho2 h; cases k with
 | zero => exact absurd h (by simp [spec_l3Walk.f])
 | succ k =>
 simp only [spec_l3Walk.f] at h; have HR0 := a_ hr0; have HC0 := a_ hc0; clear hr0 hc0; have HO2 := a_ (show Kd.R (Kd.int .i64) 2 w w0.heap.size (fun k_ => (P2_ k_ ∨ w.heap.size ≤ k_)) u9000_ l2 from Kd.R_mono ho2 (fun k_ hk => (.inl hk))); have HK := a_ (Kept.refl w (fun k_ => P2_ k_)); have HW0 := a_ hB.size; have HB := a_ hB; clear hB; have H : (if (l2.length : Int) > 16 then (some l2) else (if 0 ≤ a1 then (if a1 < (l0.length : Int) then (if ((rd_T139 l0 a1).f0) > 2 then ((spec_l3Walk.f k l0 ((rd_T139 l0 a1).f2) l2).bind fun t193 => (spec_l3Walk.j0 k l0 a1 t193)) else (spec_l3Walk.j0 k l0 a1 l2)) else (none)) else (none))) = some r := h; clear h; by_cases cx0 : (l2.length : Int) > 16
 ·rw [if_pos cx0] at H; have cx0b0 : decide (16 < (l2.length : Int)) = true := decide_eq_true cx0; have cx0b1 : decide (16 < l2.length) = true := decide_eq_true y136_; clear cx0; obtain rfl := Option.some.inj H; obtain ⟨Ao5, co5, eo5⟩ := Kd.R_slice HO2.out; subst eo5; go_enter Try.func130, Try.ntmps130
  go_wp2
  go_ret
  exact ⟨_, y3_, by (with_reducible repeat (first | apply Kd.R_alloc | apply Kd.R_drewN | apply Kd.R_drew)); exact HO2.out, y0_, y21_⟩
 ·rw [if_neg cx0] at H; have cx0b0 : decide (16 < (l2.length : Int)) = false := decide_eq_false cx0; have cx0b1 : decide (16 < l2.length) = false := decide_eq_false y136_; clear cx0; by_cases cx1 : 0 ≤ a1
  ·rw [if_pos cx1] at H; have cx1b0 : decide (0 ≤ a1) = true := decide_eq_true cx1; clear cx1; by_cases cx2 : a1 < (l0.length : Int)
   ·rw [if_pos cx2] at H; have cx2b0 : decide (a1 < (l0.length : Int)) = true := decide_eq_true cx2; clear cx2; have HC8 := a_ H; clear H; obtain ⟨Ao9, co9, eo9⟩ := Kd.R_slice HO2.out; subst eo9; have p191 : 0 ≤ (a1 : Int) := of_decide_eq_true y2_; have q191 : a1 < (l0.length : Int) := of_decide_eq_true y2_; obtain ⟨ad191, e191, hx191_0, hx191_1, hx191_2, hx191_3⟩ := at_T139 (Kd.C_kept_now HR0.out HK.out) a1 p191 q191; cases e191; replace p191 := eq_true p191; replace q191 := eq_true q191; go_enter Try.func130, Try.ntmps130
    go_upto_if 16 with (fail)
    go_cut [2] (fun v2 wc => ∃ (kq : Nat) (x2_7 : List Int), Aside0 (spec_l3Walk.j0 kq l0 a1 x2_7 = some r) ∧ Aside0 (kq ≤ k) ∧ Aside0 (Kd.R (Kd.int .i64) 2 wc w0.heap.size (fun k_ => (P2_ k_ ∨ w.heap.size ≤ k_)) v2 x2_7) ∧ Aside0 (Kept w wc (fun k_ => P2_ k_)) ∧ Aside0 (Below w0.heap.size w0 wc))
    case first =>
     have H := HC8.out; clear HC8; by_cases cx3 : ((rd_T139 l0 a1).f0) > 2
     ·rw [if_pos cx3] at H; have cx3b0 : decide (2 < ((rd_T139 l0 a1).f0)) = true := decide_eq_true cx3; clear cx3; (first | rw [cx3b0] | (simp only [i64_w, i32_w]; rw [cx3b0]) | skip); replace H := Option.bind_eq_some_iff.mp H; obtain ⟨tx4, Ay4, H⟩ := H; have Ax4 := a_ Ay4; clear Ay4; have H' := a_ H; clear H; have p192 : 0 ≤ (a1 : Int) := of_decide_eq_true y2_; have q192 : a1 < (l0.length : Int) := of_decide_eq_true y2_; obtain ⟨ad192, e192, hx192_0, hx192_1, hx192_2, hx192_3⟩ := at_T139 (Kd.C_kept_now HR0.out HK.out) a1 p192 q192; obtain rfl : ad191 = ad192 := (by injection e192); replace p192 := eq_true p192; replace q192 := eq_true q192; go_wp2_with (first | (refine gc_ 130 24 Try.func130 #[.slice (some ad191) l0.length c0, .int .i64 ((rd_T139 l0 a1).f2), .slice Ao9 l2.length co9] ?_; (with_reducible refine (ih k y136_ _ _ l0 ((rd_T139 l0 a1).f2) (fun k_ => some k_ = (.slice Ao9 l2.length co9 : Value).ownBlock) (.slice Ao9 l2.length co9) l2 tx4 w0 _ ?side1 ?side2 ?side3 ?side4 Ax4.out).mono ?_); (case side1 => repeat (first | (with_reducible first | exact HB.out | apply below_alloc | apply pw_below_drewN | apply below_drew1) | exact HB.out)); (case side2 => exact Kd.C_kept_call HR0.out y21_ (fun k_ hs_ => (fun e_ => (HO2.out.1 k_ e_.symm)) hs_)); (case side3 => exact HC0.out); (case side4 => exact Kd.R_tight rfl HO2.out); rintro e w12 ⟨v194, rfl, ho0, hb, hkp⟩; refine ⟨_, rfl, ?_⟩; have n0_ := a_ (Kd.R_mono (ok' := fun k_ => (P2_ k_ ∨ w.heap.size ≤ k_)) ho0 (fun k_ hk_ => Or.elim hk_ (fun hs_ => (HO2.out.1 k_ (hs_).symm)) (fun hn_ => (.inr (Nat.le_trans y91_ hn_))))); have n1_ := a_ (Kept.then_ (S := (fun k_ => P2_ k_)) y21_ hkp (fun k_ hs_ => (fun e_ => (HO2.out.1 k_ e_.symm)) hs_)); have n2_ := a_ (hb); clear HK; clear HB; clear HO2; have HO195 := n0_; have HK := n1_; have HB := n2_; clear n0_ n1_ n2_; (try clear hb); (try clear hkp); (try clear ho0)))
      go_meet
      case rel => exact ⟨_, (tx4), H', ⟨y61_⟩, ⟨by (with_reducible repeat (first | apply Kd.R_alloc | apply Kd.R_drewN | apply Kd.R_drew)); exact HO195.out⟩, ⟨y21_⟩, ⟨y0_⟩⟩
     ·rw [if_neg cx3] at H; have cx3b0 : decide (2 < ((rd_T139 l0 a1).f0)) = false := decide_eq_false cx3; clear cx3; (first | rw [cx3b0] | (simp only [i64_w, i32_w]; rw [cx3b0]) | skip); have H' := a_ H; clear H; go_wp2
      go_meet
      case rel => exact ⟨_, (l2), H', ⟨y61_⟩, ⟨by (with_reducible repeat (first | apply Kd.R_alloc | apply Kd.R_drewN | apply Kd.R_drew)); exact HO2.out⟩, ⟨y21_⟩, ⟨y0_⟩⟩
    case rest =>
     clear HC8; (try clear cx0); (try clear cx0b0); (try clear cx0b1); (try clear cx1); (try clear cx1b0); (try clear cx2); (try clear cx2b0); (try clear hx191_0); (try clear hx191_1); (try clear hx191_2); (try clear hx191_3); (try clear p191); (try clear q191); obtain ⟨kq, x2_7, HA, HJ7, HO_2, HK, HB⟩ := hcut; cases kq with
     | zero => exact absurd HA.out (by simp [spec_l3Walk.j0])
     | succ kj7 =>
      have H := HA.out; clear HA; simp only [spec_l3Walk.j0] at H; by_cases cx3 : 0 ≤ a1; rw [if_pos cx3] at H; have cx3b0 : decide (0 ≤ a1) = true := decide_eq_true cx3; clear cx3; by_cases cx4 : a1 < (l0.length : Int); rw [if_pos cx4] at H; have cx4b0 : decide (a1 < (l0.length : Int)) = true := decide_eq_true cx4; clear cx4; replace H := Option.bind_eq_some_iff.mp H; obtain ⟨tx5, Ay5, H⟩ := H; have Ax5 := a_ Ay5; clear Ay5; by_cases cx6 : tx5 = true; subst cx6; rw [if_pos rfl] at H; replace H := Option.bind_eq_some_iff.mp H; obtain ⟨tx7, Ay7, H⟩ := H; have Ax7 := a_ Ay7; clear Ay7; by_cases cx8 : tx7.length < 17592186044416; rw [if_pos cx8] at H; have LMcx8 := a_ cx8; clear cx8; obtain ⟨y202, hy_⟩ : ∃ y_ : List Int, y_ = (tx7 ++ [a1]) := ⟨_, rfl⟩; replace H : (some y202) = some r := z0_; have Ny202 := a_ hy_; clear hy_; obtain rfl := Option.some.inj H; have m1_0 := t_; have m1_1 := t_; have m1_4 := t_; rotate_left
      ·rw [if_neg cx8] at H; exact absurd H y92_
      replace cx6 := Bool.eq_false_iff.mpr cx6; subst cx6; rw [if_neg (show ¬ (false = true) by decide)] at H; by_cases cx7 : x2_7.length < 17592186044416; rw [if_pos cx7] at H; have LMcx7 := a_ cx7; clear cx7; obtain ⟨y205, hy_⟩ : ∃ y_ : List Int, y_ = (x2_7 ++ [a1]) := ⟨_, rfl⟩; replace H : (some y205) = some r := z0_; have Ny205 := a_ hy_; clear hy_; obtain rfl := Option.some.inj H; have m1_2 := t_; have m1_3 := t_; have m1_5 := t_; rotate_left
      ·rw [if_neg cx7] at H; exact absurd H y92_
      ·rw [if_neg cx4] at H; exact absurd H y92_
      ·rw [if_neg cx3] at H; exact absurd H y92_
      all_goals (
       have p9922068 : 0 ≤ (a1 : Int) := of_decide_eq_true y2_; have q9922068 : a1 < (l0.length : Int) := of_decide_eq_true y2_; obtain ⟨ad9922068, e9922068, hx9922068_0, hx9922068_1, hx9922068_2, hx9922068_3⟩ := at_T139 (Kd.C_kept_now HR0.out HK.out) a1 p9922068 q9922068; obtain rfl : ad191 = ad9922068 := (by injection e9922068); replace p9922068 := eq_true p9922068; replace q9922068 := eq_true q9922068
       go_wp2_with (first | (have mkq_ := m1_0; clear mkq_; refine gc_ 132 30 Try.func132 #[.int .i64 ((rd_T139 l0 a1).f0)] ?_; (with_reducible refine (spec_l3Two.calls ((rd_T139 l0 a1).f0) _ _ Ax5.out).mono ?_); rintro e w' ⟨rfl, ⟨nd, rfl⟩⟩; refine ⟨_, rfl, ?_⟩; have p9008826 : 0 ≤ (a1 : Int) := of_decide_eq_true y2_; have q9008826 : a1 < (l0.length : Int) := of_decide_eq_true y2_; obtain ⟨ad9008826, e9008826, hx9008826_0, hx9008826_1, hx9008826_2, hx9008826_3⟩ := at_T139 (Kd.C_kept_now HR0.out HK.out) a1 p9008826 q9008826; obtain rfl : ad191 = ad9008826 := (by injection e9008826); replace p9008826 := eq_true p9008826; replace q9008826 := eq_true q9008826; obtain ⟨Ao9149502, co9149502, eo9149502⟩ := Kd.R_slice HO_2.out; subst eo9149502) | (refine gc_ 130 38 Try.func130 #[.slice (some ad191) l0.length c0, .int .i64 ((rd_T139 l0 a1).f3), .slice Ao9149502 x2_7.length co9149502] ?_; (with_reducible refine (ih kj7 (by have := HJ7.out; omega) _ _ l0 ((rd_T139 l0 a1).f3) (fun k_ => some k_ = (.slice Ao9149502 x2_7.length co9149502 : Value).ownBlock) (.slice Ao9149502 x2_7.length co9149502) x2_7 tx7 w0 _ ?side1 ?side2 ?side3 ?side4 Ax7.out).mono ?_); (case side1 => repeat (first | (with_reducible first | exact HB.out | apply below_alloc | apply pw_below_drewN | apply below_drew1) | exact HB.out)); (case side2 => exact Kd.C_kept_call HR0.out y21_ (fun k_ hs_ => (fun e_ => (HO_2.out.1 k_ e_.symm)) hs_)); (case side3 => exact HC0.out); (case side4 => exact Kd.R_tight rfl HO_2.out); rintro e w9670384 ⟨v9811431, rfl, ho0, hb, hkp⟩; refine ⟨_, rfl, ?_⟩; have n0_ := a_ (Kd.R_mono (ok' := fun k_ => (P2_ k_ ∨ w.heap.size ≤ k_)) ho0 (fun k_ hk_ => Or.elim hk_ (fun hs_ => (HO_2.out.1 k_ (hs_).symm)) (fun hn_ => (.inr (Nat.le_trans y91_ hn_))))); have n1_ := a_ (Kept.then_ (S := (fun k_ => P2_ k_)) y21_ hkp (fun k_ hs_ => (fun e_ => (HO_2.out.1 k_ e_.symm)) hs_)); have n2_ := a_ (hb); clear HK; clear HB; clear HO_2; have HO9186473 := n0_; have HK := n1_; have HB := n2_; clear n0_ n1_ n2_; (try clear hb); (try clear hkp); (try clear ho0)) | (have mkq_ := m1_1; clear mkq_; (with_reducible refine gate_builtin (b := .append) (xs := #[.tmp 39, .tmp 41]) rfl ?_); at_builtin; refine Kd.R_append (Kd.int .i64) (w0 := w0) w0.heap.size rfl (.tmp 39) (.tmp 41) 27 2 (.int .i64 0) 8 rfl Try.underlying27 info2 rfl y37_ y136_ v9811431 tx7 a1 [.int .i64 a1] (fun k_ => (P2_ k_ ∨ w.heap.size ≤ k_)) (fun _ => False) rfl rfl ?aP (fun _ hk => hk.elim) ?aF ?aO ?aB ?aS ?aL ?_; (case aP => exact rfl); (case aB => exact y0_); (case aF => exact (fun k_ hk => (.inr (Nat.le_trans y91_ hk)))); (case aO => exact (by (with_reducible repeat (first | apply Kd.R_alloc | apply Kd.R_drewN | apply Kd.R_drew)); exact HO9186473.out)); (case aS => exact (below_size y0_)); (case aL => have := LMcx8.out; omega); intro v9524357 w9833851 ho hb hg hat; rw [← Ny202.out] at ho; have n0_ := a_ (hb); have n1_ := a_ (Kept.of_grown (S := (fun k_ => P2_ k_)) hg y21_ (fun k_ e_ => (HO9186473.out.1 k_ e_))); have n2_ := a_ (ho); clear HB; clear HK; clear HO9186473; have HB := n0_; have HK := n1_; have HO9694366 := n2_; clear n0_ n1_ n2_; clear ho hb hg hat) | (have mkq_ := m1_2; clear mkq_; refine gc_ 132 30 Try.func132 #[.int .i64 ((rd_T139 l0 a1).f0)] ?_; (with_reducible refine (spec_l3Two.calls ((rd_T139 l0 a1).f0) _ _ Ax5.out).mono ?_); rintro e w' ⟨rfl, ⟨nd, rfl⟩⟩; refine ⟨_, rfl, ?_⟩) | (have mkq_ := m1_3; clear mkq_; (with_reducible refine gate_builtin (b := .append) (xs := #[.tmp 39, .tmp 41]) rfl ?_); at_builtin; refine Kd.R_append (Kd.int .i64) (w0 := w0) w0.heap.size rfl (.tmp 39) (.tmp 41) 27 2 (.int .i64 0) 8 rfl Try.underlying27 info2 rfl y37_ y136_ u2 x2_7 a1 [.int .i64 a1] (fun k_ => (P2_ k_ ∨ w.heap.size ≤ k_)) (fun _ => False) rfl rfl ?aP (fun _ hk => hk.elim) ?aF ?aO ?aB ?aS ?aL ?_; (case aP => exact rfl); (case aB => exact y0_); (case aF => exact (fun k_ hk => (.inr (Nat.le_trans y91_ hk)))); (case aO => exact (by (with_reducible repeat (first | apply Kd.R_alloc | apply Kd.R_drewN | apply Kd.R_drew)); exact HO_2.out)); (case aS => exact (below_size y0_)); (case aL => have := LMcx7.out; omega); intro v9644220 w9682173 ho hb hg hat; rw [← Ny205.out] at ho; have n0_ := a_ (hb); have n1_ := a_ (Kept.of_grown (S := (fun k_ => P2_ k_)) hg y21_ (fun k_ e_ => (HO_2.out.1 k_ e_))); have n2_ := a_ (ho); clear HB; clear HK; clear HO_2; have HB := n0_; have HK := n1_; have HO9673640 := n2_; clear n0_ n1_ n2_; clear ho hb hg hat))
       go_ret
       first
       | fail_if_success clear m1_4
       |(clear m1_4; exact ⟨_, y3_, by (with_reducible repeat (first | apply Kd.R_alloc | apply Kd.R_drewN | apply Kd.R_drew)); exact HO9694366.out, y0_, y21_⟩)
       first
       | fail_if_success clear m1_5
       |(clear m1_5; exact ⟨_, y3_, by (with_reducible repeat (first | apply Kd.R_alloc | apply Kd.R_drewN | apply Kd.R_drew)); exact HO9673640.out, y0_, y21_⟩))
   ·rw [if_neg cx2] at H; exact absurd H y92_
  ·rw [if_neg cx1] at H; exact absurd H y92_

/-! ### spec_l3Fault: function 117 -/
mutual
def spec_l3Fault.j0 : Nat → List (S139) → Bool → Option (Int)
  | 0, _, _ => none
  | k + 1, x0, x14 => if x14 = true then (some 2) else (spec_l3Fault.l0 k x0 0)
def spec_l3Fault.l0 : Nat → List (S139) → Int → Option (Int)
  | 0, _, _ => none
  | k + 1, x0, x3 => if x3 < (x0.length : Int) then (if 0 ≤ x3 then ((spec_l3Node.f k (rd_T139 x0 x3) x3).bind fun t209 => (if t209 = 0 then (spec_l3Fault.l0 k x0 (wrap64 (x3 + 1))) else (some t209))) else (none)) else ((spec_l3Walk.f k x0 (wrap64 ((x0.length : Int) - 1)) ([] : List Int)).bind fun t210 => (if (t210.length : Int) = (x0.length : Int) then (spec_l3Fault.l1 k t210 0) else (some 1)))
def spec_l3Fault.l1 : Nat → List Int → Int → Option (Int)
  | 0, _, _ => none
  | k + 1, x5, x6 => if x6 < (x5.length : Int) then (if 0 ≤ x6 then (if (rd x5 x6) = x6 then (spec_l3Fault.l1 k x5 (wrap64 (x6 + 1))) else (some 1)) else (none)) else (some 0)
end
def spec_l3Fault.f (k : Nat) (l0 : List (S139)) : Option (Int) := if (l0.length : Int) < 1 then (spec_l3Fault.j0 k l0 true) else (spec_l3Fault.j0 k l0 (decide ((l0.length : Int) > 16)))
theorem spec_l3Fault.mono_l : ∀ k, (∀ y0 y1, LeO (spec_l3Fault.j0 k y0 y1) (spec_l3Fault.j0 (k + 1) y0 y1)) ∧ (∀ y0 y1, LeO (spec_l3Fault.l0 k y0 y1) (spec_l3Fault.l0 (k + 1) y0 y1)) ∧ (∀ y0 y1, LeO (spec_l3Fault.l1 k y0 y1) (spec_l3Fault.l1 (k + 1) y0 y1))
  | 0 => ⟨fun _ _ r h => by simp [spec_l3Fault.j0] at h, fun _ _ r h => by simp [spec_l3Fault.l0] at h, fun _ _ r h => by simp [spec_l3Fault.l1] at h⟩
  | k + 1 => by
    obtain ⟨ih0, ih1, ih2⟩ := spec_l3Fault.mono_l k
    refine ⟨?_, ?_, ?_⟩
    · intro y0 y1
      unfold spec_l3Fault.j0
      repeat' (with_reducible first | exact ih0 _ _ | exact ih1 _ _ | exact ih2 _ _ | exact spec_l3Node.mono _ _ _ | exact spec_l3Walk.mono _ _ _ _ | exact LeO.refl _ | exact LeO.none _ | refine LeO.ite ?_ ?_ | refine LeO.bind ?_ (fun _ => ?_))
    · intro y0 y1
      unfold spec_l3Fault.l0
      repeat' (with_reducible first | exact ih0 _ _ | exact ih1 _ _ | exact ih2 _ _ | exact spec_l3Node.mono _ _ _ | exact spec_l3Walk.mono _ _ _ _ | exact LeO.refl _ | exact LeO.none _ | refine LeO.ite ?_ ?_ | refine LeO.bind ?_ (fun _ => ?_))
    · intro y0 y1
      unfold spec_l3Fault.l1
      repeat' (with_reducible first | exact ih0 _ _ | exact ih1 _ _ | exact ih2 _ _ | exact spec_l3Node.mono _ _ _ | exact spec_l3Walk.mono _ _ _ _ | exact LeO.refl _ | exact LeO.none _ | refine LeO.ite ?_ ?_ | refine LeO.bind ?_ (fun _ => ?_))
theorem spec_l3Fault.mono : ∀ a0 k, LeO (spec_l3Fault.f k a0) (spec_l3Fault.f (k + 1) a0) := by
  intro a0 k
  obtain ⟨ih0, ih1, ih2⟩ := spec_l3Fault.mono_l k
  unfold spec_l3Fault.f
  repeat' (with_reducible first | exact ih0 _ _ | exact ih1 _ _ | exact ih2 _ _ | exact spec_l3Node.mono _ _ _ | exact spec_l3Walk.mono _ _ _ _ | exact LeO.refl _ | exact LeO.none _ | refine LeO.ite ?_ ?_ | refine LeO.bind ?_ (fun _ => ?_))
set_option maxHeartbeats 8000000 in
set_option maxRecDepth 100000 in
theorem spec_l3Fault.calls (k : Nat) (A0 : Option Addr) (c0 : Nat) (l0 : List (S139)) (r : Int) (w : World) (hr0 : Kd.C k139 w A0 l0.length l0) (hc0 : l0.length ≤ c0) (h : spec_l3Fault.f k l0 = some r) :
    Calls Try.prog 117 #[.slice A0 l0.length c0] w fun e w' => e = .returned (.int .i64 r) ∧ Below w.heap.size w w' := by
 have HR0 := a_ hr0; have HC0 := a_ hc0; clear hr0 hc0; have HB := a_ (Below.refl w.heap.size w); have H : (if (l0.length : Int) < 1 then (spec_l3Fault.j0 k l0 true) else (spec_l3Fault.j0 k l0 (decide ((l0.length : Int) > 16)))) = some r := h; clear h; have HC2 := a_ H; clear H; go_enter Try.func117, Try.ntmps117
 go_upto_region 1 with (fail)
 go_cut [14] (fun v14 wc => ∃ (kq : Nat) (x14_1 : Bool), v14 = .bool x14_1 ∧ Aside0 (spec_l3Fault.j0 kq l0 x14_1 = some r) ∧ Aside0 (kq ≤ k) ∧ Aside0 (Below w.heap.size w wc))
 case first =>
  have H := HC2.out; clear HC2; by_cases cx0 : (l0.length : Int) < 1
  ·rw [if_pos cx0] at H; have cx0b0 : decide ((l0.length : Int) < 1) = true := decide_eq_true cx0; have cx0b1 : decide (l0.length < 1) = true := decide_eq_true y136_; clear cx0; (first | rw [cx0b0] | (simp only [i64_w, i32_w]; rw [cx0b0]) | skip); have H' := a_ H; clear H; go_wp2
   go_meet
   case rel => exact ⟨_, (true), y1_, H', ⟨y61_⟩, ⟨y0_⟩⟩
  ·rw [if_neg cx0] at H; have cx0b0 : decide ((l0.length : Int) < 1) = false := decide_eq_false cx0; have cx0b1 : decide (l0.length < 1) = false := decide_eq_false y136_; clear cx0; (first | rw [cx0b0] | (simp only [i64_w, i32_w]; rw [cx0b0]) | skip); have H' := a_ H; clear H; go_wp2
   go_meet
   case rel => exact ⟨_, (decide ((l0.length : Int) > 16)), y1_, H', ⟨y61_⟩, ⟨y0_⟩⟩
 case rest =>
  clear HC2; obtain ⟨kq, x14_1, rfl, HA, HJ1, HB⟩ := hcut; cases kq with
  | zero => exact absurd HA.out (by simp [spec_l3Fault.j0])
  | succ kj1 =>
   have H := HA.out; clear HA; simp only [spec_l3Fault.j0] at H; by_cases cx0 : x14_1 = true
   ·subst cx0; rw [if_pos rfl] at H; obtain rfl := Option.some.inj H; go_wp2
    go_ret
    exact ⟨y3_, y0_⟩
   ·replace cx0 := Bool.eq_false_iff.mpr cx0; subst cx0; rw [if_neg (show ¬ (false = true) by decide)] at H; have H' := a_ H; clear H; go_wp2
    go_loopg [3] kj1 (fun kq v3 w' => ∃ (x3_2 : Int), v3 = .int .i64 x3_2 ∧ Aside0 (spec_l3Fault.l0 kq l0 x3_2 = some r) ∧ Aside0 (kq ≤ kj1) ∧ Aside0 (Below w.heap.size w w'))
    case atStart => exact ⟨(0), y1_, H', ⟨Nat.le_refl _⟩, ⟨y0_⟩⟩
    case round =>
     clear H'; (try clear cx0); obtain ⟨x3_2, rfl, HA, HK2, HB⟩ := hrel; cases gk with
     | zero => exact absurd HA.out (by simp [spec_l3Fault.l0])
     | succ k2 =>
      have H := HA.out; clear HA; simp only [spec_l3Fault.l0] at H; by_cases cx1 : x3_2 < (l0.length : Int); rw [if_pos cx1] at H; have cx1b0 : decide (x3_2 < (l0.length : Int)) = true := decide_eq_true cx1; clear cx1; by_cases cx2 : 0 ≤ x3_2; rw [if_pos cx2] at H; have cx2b0 : decide (0 ≤ x3_2) = true := decide_eq_true cx2; clear cx2; replace H := Option.bind_eq_some_iff.mp H; obtain ⟨tx3, Ay3, H⟩ := H; have Ax3 := a_ Ay3; clear Ay3; by_cases cx4 : tx3 = 0; rw [if_pos cx4] at H; have cx4b0 : (tx3 == 0) = true := beq_iff_eq.mpr cx4; have cx4b1 : (tx3 != 0) = false := bne_eq_false_iff_eq.mpr cx4; clear cx4; have H' := a_ H; clear H; have m1_0 := t_; have m1_1 := t_; rotate_left; rw [if_neg cx4] at H; have cx4b0 : (tx3 == 0) = false := beq_eq_false_iff_ne.mpr cx4; have cx4b1 : (tx3 != 0) = true := bne_iff_ne.mpr cx4; obtain rfl := Option.some.inj H; have m1_0 := t_; have m1_2 := t_; rotate_left
      ·rw [if_neg cx2] at H; exact absurd H y92_
      rw [if_neg cx1] at H; have cx1b0 : decide (x3_2 < (l0.length : Int)) = false := decide_eq_false cx1; clear cx1; replace H := Option.bind_eq_some_iff.mp H; obtain ⟨tx2, Ay2, H⟩ := H; have Ax2 := a_ Ay2; clear Ay2; by_cases cx3 : (tx2.length : Int) = (l0.length : Int); rw [if_pos cx3] at H; have cx3b0 : ((tx2.length : Int) == (l0.length : Int)) = true := beq_iff_eq.mpr cx3; have cx3b1 : ((tx2.length : Int) != (l0.length : Int)) = false := bne_eq_false_iff_eq.mpr cx3; have cx3b2 : (tx2.length == l0.length) = true := by first | simpa using cx3 | (simp at cx3 ⊢; omega)
      clear cx3; have H' := a_ H; clear H; have m1_3 := t_; rotate_left; rw [if_neg cx3] at H; have cx3b0 : ((tx2.length : Int) == (l0.length : Int)) = false := beq_eq_false_iff_ne.mpr cx3; have cx3b1 : ((tx2.length : Int) != (l0.length : Int)) = true := bne_iff_ne.mpr cx3; have cx3b2 : (tx2.length == l0.length) = false := by first | simpa using cx3 | (simp at cx3 ⊢; omega)
      obtain rfl := Option.some.inj H; have m1_4 := t_; rotate_left
      all_goals (
       first
       | fail_if_success clear m1_0
       |(clear m1_0; have p9922068 : 0 ≤ (x3_2 : Int) := of_decide_eq_true y2_; have q9922068 : x3_2 < (l0.length : Int) := of_decide_eq_true y2_; have BD208 := a_ (And.intro p9922068 q9922068); obtain ⟨ad9922068, e9922068, hx9922068_0, hx9922068_1, hx9922068_2, hx9922068_3⟩ := at_T139 HR0.out x3_2 p9922068 q9922068; cases e9922068; replace hx9922068_0 := cT_ HB.out hx9922068_0; replace hx9922068_1 := cT_ HB.out hx9922068_1; replace hx9922068_2 := cT_ HB.out hx9922068_2; replace hx9922068_3 := cT_ HB.out hx9922068_3; replace p9922068 := eq_true p9922068; replace q9922068 := eq_true q9922068)
       go_wp2_with (first | (refine gc_ 129 25 Try.func129 #[.pointer (some (ad9922068.add ((x3_2).toNat * 4))), .int .i64 x3_2] ?_; (with_reducible refine (spec_l3Node.calls k2 _ (rd_T139 l0 x3_2) x3_2 tx3 _ ?side1 Ax3.out).mono ?_); (case side1 => refine C_one y157_ x3_2 (by first | exact BD208.out.1 | omega | exact of_decide_eq_true y2_) (by first | exact BD208.out.2 | exact of_decide_eq_true y2_ | omega) _ rfl); rintro e w' ⟨rfl, ⟨nd, rfl⟩⟩; refine ⟨_, rfl, ?_⟩) | (refine gc_ 130 33 Try.func130 #[.slice A0 l0.length c0, .int .i64 (wrap64 ((l0.length : Int) - 1)), .slice none 0 0] ?_; (refine (spec_l3Walk.calls k2 _ _ l0 (wrap64 ((l0.length : Int) - 1)) (fun k_ => some k_ = (.slice none 0 0 : Value).ownBlock) (.slice none 0 0) ([] : List Int) tx2 w _ ?side1 ?side2 ?side3 ?side4 Ax2.out).mono ?_); (case side1 => repeat (first | (with_reducible first | exact HB.out | apply below_alloc | apply pw_below_drewN | apply below_drew1) | exact HB.out)); (case side2 => exact Kd.C_kept_came k139_heap HR0.out y0_ (fun k_ hs_ => (fun e_ => by simp [Value.ownBlock] at e_) hs_)); (case side3 => exact HC0.out); (case side4 => exact Kd.R_nil _ _ _ _ _); rintro e w9527838 ⟨v9298955, rfl, ho0, hb, hkp⟩; refine ⟨_, rfl, ?_⟩; have n0_ := a_ (Kd.R_mono (ok' := fun k_ => True) ho0 (fun k_ hk_ => trivial)); have n1_ := a_ (hb); clear HB; have HO9410293 := n0_; have HB := n1_; clear n0_ n1_; (try clear hb); (try clear hkp); (try clear ho0); obtain ⟨Ao9516464, co9516464, eo9516464⟩ := Kd.R_slice HO9410293.out; subst eo9516464))
       first
       | fail_if_success clear m1_1
       |(clear m1_1; go_roundg k2
         case measure => have := HJ1.out; have := HK2.out; omega
         case rel => exact ⟨(wrap64 (x3_2 + 1)), y1_, H', ⟨by have := HJ1.out; have := HK2.out; omega⟩, ⟨y0_⟩⟩)
       first
       | fail_if_success clear m1_2
       |(clear m1_2; go_ret
         exact ⟨y3_, y0_⟩)
       first
       | fail_if_success clear m1_3
       |(clear m1_3; go_loopg [6] k2 (fun kq v9234267 w' => ∃ (x6_3 : Int), v9234267 = .int .i64 x6_3 ∧ Aside0 (spec_l3Fault.l1 kq tx2 x6_3 = some r) ∧ Aside0 (kq ≤ k2) ∧ Aside0 (Kd.R (Kd.int .i64) 2 w' w.heap.size (fun _ => True) (.slice Ao9516464 tx2.length co9516464) tx2) ∧ Aside0 (Below w.heap.size w w'))
         case atStart => exact ⟨(0), y1_, H', ⟨Nat.le_refl _⟩, ⟨by (with_reducible repeat (first | apply Kd.R_alloc | apply Kd.R_drewN | apply Kd.R_drew)); exact HO9410293.out⟩, ⟨y0_⟩⟩
         case round =>
          clear H'; (try clear cx0); (try clear cx1); (try clear cx1b0); (try clear cx3); (try clear cx3b0); (try clear cx3b1); (try clear cx3b2); obtain ⟨x6_3, rfl, HA, HK9487065, HO_5, HB⟩ := hrel; cases gk with
          | zero => exact absurd HA.out (by simp [spec_l3Fault.l1])
          | succ k3 =>
           have H := HA.out; clear HA; simp only [spec_l3Fault.l1] at H; by_cases cx4 : x6_3 < (tx2.length : Int); rw [if_pos cx4] at H; have cx4b0 : decide (x6_3 < (tx2.length : Int)) = true := decide_eq_true cx4; clear cx4; by_cases cx5 : 0 ≤ x6_3; rw [if_pos cx5] at H; have cx5b0 : decide (0 ≤ x6_3) = true := decide_eq_true cx5; clear cx5; by_cases cx6 : (rd tx2 x6_3) = x6_3; rw [if_pos cx6] at H; have cx6b0 : ((rd tx2 x6_3) == x6_3) = true := beq_iff_eq.mpr cx6; have cx6b1 : ((rd tx2 x6_3) != x6_3) = false := bne_eq_false_iff_eq.mpr cx6; clear cx6; have H' := a_ H; clear H; have m2_0 := t_; have m2_1 := t_; rotate_left; rw [if_neg cx6] at H; have cx6b0 : ((rd tx2 x6_3) == x6_3) = false := beq_eq_false_iff_ne.mpr cx6; have cx6b1 : ((rd tx2 x6_3) != x6_3) = true := bne_iff_ne.mpr cx6; obtain rfl := Option.some.inj H; have m2_0 := t_; have m2_2 := t_; rotate_left
           ·rw [if_neg cx5] at H; exact absurd H y92_
           rw [if_neg cx4] at H; have cx4b0 : decide (x6_3 < (tx2.length : Int)) = false := decide_eq_false cx4; clear cx4; obtain rfl := Option.some.inj H; have m2_3 := t_; rotate_left
           all_goals (
            first
            | fail_if_success clear m2_0
            |(clear m2_0; have p9922068 : 0 ≤ (x6_3 : Int) := of_decide_eq_true y2_; have q9922068 : x6_3 < (tx2.length : Int) := of_decide_eq_true y2_; obtain ⟨ad9922068, e9922068, hx9922068_0⟩ := Kd.at_int (Kd.R_reads' HO_5.out).2.2 x6_3 p9922068 q9922068; cases e9922068; replace p9922068 := eq_true p9922068; replace q9922068 := eq_true q9922068; go_wp2)
            first
            | fail_if_success clear m2_1
            |(clear m2_1; go_roundg k3
              case measure => have := HJ1.out; have := HK2.out; have := HK9487065.out; omega
              case rel => exact ⟨(wrap64 (x6_3 + 1)), y1_, H', ⟨by have := HJ1.out; have := HK2.out; have := HK9487065.out; omega⟩, ⟨y63_⟩, ⟨y0_⟩⟩)
            first
            | fail_if_success clear m2_2
            |(clear m2_2; go_ret
              exact ⟨y3_, y0_⟩)
            first
            | fail_if_success clear m2_3
            |(clear m2_3; go_wp2
              go_ret
              exact ⟨y3_, y0_⟩)))
       first
       | fail_if_success clear m1_4
       |(clear m1_4; go_ret
         exact ⟨y3_, y0_⟩))

/-! ### spec_l4One: function 91 -/
mutual
def spec_l4One.j0 : Nat → List (S78) → Int → Bool → Option (Int)
  | 0, _, _, _ => none
  | k + 1, x0, x1, x20 => if x20 = true then (some 1) else (if x1 = 0 then (if 0 ≤ x1 then (if x1 < (x0.length : Int) then (if ((rd_T78 x0 x1).f1) = (-1) then (if x1 > 0 then ((spec_l1In.f ((rd_T78 x0 x1).f1) 0 (wrap64 (x1 - 1))).bind fun t219 => (spec_l4One.j1 k x0 x1 (!t219))) else (spec_l4One.j1 k x0 x1 false)) else (spec_l4One.j1 k x0 x1 true)) else (none)) else (none)) else (if x1 > 0 then (if 0 ≤ x1 then (if x1 < (x0.length : Int) then ((spec_l1In.f ((rd_T78 x0 x1).f1) 0 (wrap64 (x1 - 1))).bind fun t221 => (spec_l4One.j1 k x0 x1 (!t221))) else (none)) else (none)) else (spec_l4One.j1 k x0 x1 false)))
def spec_l4One.j1 : Nat → List (S78) → Int → Bool → Option (Int)
  | 0, _, _, _ => none
  | k + 1, x0, x1, x43 => if x43 = true then (some 3) else (if x1 > 0 then ((spec_l4Line.f k x0 x1).bind fun t222 => (spec_l4One.j2 k x0 x1 (!t222))) else (spec_l4One.j2 k x0 x1 false))
def spec_l4One.j2 : Nat → List (S78) → Int → Bool → Option (Int)
  | 0, _, _, _ => none
  | k + 1, x0, x1, x51 => if x51 = true then (some 1) else ((spec_l4Deep.f k x0 x1).bind fun t223 => (if t223 > 7 then (some 2) else (if 0 ≤ x1 then (if x1 < (x0.length : Int) then (if ((rd_T78 x0 x1).f0) = 2 then ((spec_l1Name.f k ((rd_T78 x0 x1).f2)).bind fun t225 => (if t225 = 0 then (spec_l4One.j3 k x0 x1) else (some t225))) else (spec_l4One.j3 k x0 x1)) else (none)) else (none))))
def spec_l4One.j3 : Nat → List (S78) → Int → Option (Int)
  | 0, _, _ => none
  | k + 1, x0, x1 => (spec_l4Arg.f k (rd_T78 x0 x1)).bind fun t226 => (if t226 = true then (if 0 ≤ x1 then (if x1 < (x0.length : Int) then (if ((rd_T78 x0 x1).f0) = 7 then ((spec_l3Fault.f k ((rd_T78 x0 x1).f5)).bind fun t228 => (some t228)) else (some 0)) else (none)) else (none)) else (some 3))
end
def spec_l4One.f (k : Nat) (l0 : List (S78)) (a1 : Int) : Option (Int) := if 0 ≤ a1 then (if a1 < (l0.length : Int) then ((spec_l1In.f ((rd_T78 l0 a1).f0) 1 8).bind fun t216 => (if t216 = true then ((spec_l4Bare.f (rd_T78 l0 a1)).bind fun t217 => (spec_l4One.j0 k l0 a1 (!t217))) else (spec_l4One.j0 k l0 a1 true))) else (none)) else (none)
theorem spec_l4One.mono_l : ∀ k, (∀ y0 y1 y2, LeO (spec_l4One.j0 k y0 y1 y2) (spec_l4One.j0 (k + 1) y0 y1 y2)) ∧ (∀ y0 y1 y2, LeO (spec_l4One.j1 k y0 y1 y2) (spec_l4One.j1 (k + 1) y0 y1 y2)) ∧ (∀ y0 y1 y2, LeO (spec_l4One.j2 k y0 y1 y2) (spec_l4One.j2 (k + 1) y0 y1 y2)) ∧ (∀ y0 y1, LeO (spec_l4One.j3 k y0 y1) (spec_l4One.j3 (k + 1) y0 y1))
  | 0 => ⟨fun _ _ _ r h => by simp [spec_l4One.j0] at h, fun _ _ _ r h => by simp [spec_l4One.j1] at h, fun _ _ _ r h => by simp [spec_l4One.j2] at h, fun _ _ r h => by simp [spec_l4One.j3] at h⟩
  | k + 1 => by
    obtain ⟨ih0, ih1, ih2, ih3⟩ := spec_l4One.mono_l k
    refine ⟨?_, ?_, ?_, ?_⟩
    · intro y0 y1 y2
      unfold spec_l4One.j0
      repeat' (with_reducible first | exact ih0 _ _ _ | exact ih1 _ _ _ | exact ih2 _ _ _ | exact ih3 _ _ | exact spec_l1Name.mono _ _ | exact spec_l3Fault.mono _ _ | exact spec_l4Arg.mono _ _ | exact spec_l4Deep.mono _ _ _ | exact spec_l4Line.mono _ _ _ | exact LeO.refl _ | exact LeO.none _ | refine LeO.ite ?_ ?_ | refine LeO.bind ?_ (fun _ => ?_))
    · intro y0 y1 y2
      unfold spec_l4One.j1
      repeat' (with_reducible first | exact ih0 _ _ _ | exact ih1 _ _ _ | exact ih2 _ _ _ | exact ih3 _ _ | exact spec_l1Name.mono _ _ | exact spec_l3Fault.mono _ _ | exact spec_l4Arg.mono _ _ | exact spec_l4Deep.mono _ _ _ | exact spec_l4Line.mono _ _ _ | exact LeO.refl _ | exact LeO.none _ | refine LeO.ite ?_ ?_ | refine LeO.bind ?_ (fun _ => ?_))
    · intro y0 y1 y2
      unfold spec_l4One.j2
      repeat' (with_reducible first | exact ih0 _ _ _ | exact ih1 _ _ _ | exact ih2 _ _ _ | exact ih3 _ _ | exact spec_l1Name.mono _ _ | exact spec_l3Fault.mono _ _ | exact spec_l4Arg.mono _ _ | exact spec_l4Deep.mono _ _ _ | exact spec_l4Line.mono _ _ _ | exact LeO.refl _ | exact LeO.none _ | refine LeO.ite ?_ ?_ | refine LeO.bind ?_ (fun _ => ?_))
    · intro y0 y1
      unfold spec_l4One.j3
      repeat' (with_reducible first | exact ih0 _ _ _ | exact ih1 _ _ _ | exact ih2 _ _ _ | exact ih3 _ _ | exact spec_l1Name.mono _ _ | exact spec_l3Fault.mono _ _ | exact spec_l4Arg.mono _ _ | exact spec_l4Deep.mono _ _ _ | exact spec_l4Line.mono _ _ _ | exact LeO.refl _ | exact LeO.none _ | refine LeO.ite ?_ ?_ | refine LeO.bind ?_ (fun _ => ?_))
theorem spec_l4One.mono : ∀ a0 a1 k, LeO (spec_l4One.f k a0 a1) (spec_l4One.f (k + 1) a0 a1) := by
  intro a0 a1 k
  obtain ⟨ih0, ih1, ih2, ih3⟩ := spec_l4One.mono_l k
  unfold spec_l4One.f
  repeat' (with_reducible first | exact ih0 _ _ _ | exact ih1 _ _ _ | exact ih2 _ _ _ | exact ih3 _ _ | exact spec_l1Name.mono _ _ | exact spec_l3Fault.mono _ _ | exact spec_l4Arg.mono _ _ | exact spec_l4Deep.mono _ _ _ | exact spec_l4Line.mono _ _ _ | exact LeO.refl _ | exact LeO.none _ | refine LeO.ite ?_ ?_ | refine LeO.bind ?_ (fun _ => ?_))
set_option maxHeartbeats 8000000 in
set_option maxRecDepth 100000 in
theorem spec_l4One.calls (k : Nat) (A0 : Option Addr) (c0 : Nat) (l0 : List (S78)) (a1 : Int) (r : Int) (w : World) (hr0 : Kd.C k78 w A0 l0.length l0) (hc0 : l0.length ≤ c0) (h : spec_l4One.f k l0 a1 = some r) :
    Calls Try.prog 91 #[.slice A0 l0.length c0, .int .i64 a1] w fun e w' => e = .returned (.int .i64 r) ∧ Below w.heap.size w w' := by
 have HR0 := a_ hr0; have HC0 := a_ hc0; clear hr0 hc0; have HB := a_ (Below.refl w.heap.size w); have H : (if 0 ≤ a1 then (if a1 < (l0.length : Int) then ((spec_l1In.f ((rd_T78 l0 a1).f0) 1 8).bind fun t216 => (if t216 = true then ((spec_l4Bare.f (rd_T78 l0 a1)).bind fun t217 => (spec_l4One.j0 k l0 a1 (!t217))) else (spec_l4One.j0 k l0 a1 true))) else (none)) else (none)) = some r := h; clear h; by_cases cx0 : 0 ≤ a1
 ·rw [if_pos cx0] at H; have cx0b0 : decide (0 ≤ a1) = true := decide_eq_true cx0; clear cx0; by_cases cx1 : a1 < (l0.length : Int)
  ·rw [if_pos cx1] at H; have cx1b0 : decide (a1 < (l0.length : Int)) = true := decide_eq_true cx1; clear cx1; have HC5 := a_ H; clear H; have p214 : 0 ≤ (a1 : Int) := of_decide_eq_true y2_; have q214 : a1 < (l0.length : Int) := of_decide_eq_true y2_; have BD214 := a_ (And.intro p214 q214); obtain ⟨ad214, A214_4, c214_4, A214_5, c214_5, e214, hx214_0, hx214_1, hx214_2, hx214_3, hx214_4, hx214_5, hl214_4, hi214_4, hl214_5, hi214_5⟩ := at_T78 HR0.out a1 p214 q214; cases e214; have HR214_4 := a_ hi214_4; have HC214_4 := a_ hl214_4; clear hi214_4 hl214_4; have HR214_5 := a_ hi214_5; have HC214_5 := a_ hl214_5; clear hi214_5 hl214_5; replace p214 := eq_true p214; replace q214 := eq_true q214; go_enter Try.func91, Try.ntmps91
   go_upto_region 2 with (fail)
   go_cut [20] (fun v20 wc => ∃ (kq : Nat) (x20_4 : Bool), v20 = .bool x20_4 ∧ Aside0 (spec_l4One.j0 kq l0 a1 x20_4 = some r) ∧ Aside0 (kq ≤ k) ∧ Aside0 (Below w.heap.size w wc))
   case first =>
    have H := HC5.out; clear HC5; replace H := Option.bind_eq_some_iff.mp H; obtain ⟨tx2, Ay2, H⟩ := H; have Ax2 := a_ Ay2; clear Ay2; by_cases cx3 : tx2 = true; subst cx3; rw [if_pos rfl] at H; replace H := Option.bind_eq_some_iff.mp H; obtain ⟨tx4, Ay4, H⟩ := H; have Ax4 := a_ Ay4; clear Ay4; have H' := a_ H; clear H; have m1_0 := t_; rotate_left; replace cx3 := Bool.eq_false_iff.mpr cx3; subst cx3; rw [if_neg (show ¬ (false = true) by decide)] at H; have H' := a_ H; clear H; have m1_1 := t_; rotate_left
    all_goals (
     have p9922068 : 0 ≤ (a1 : Int) := of_decide_eq_true y2_; have q9922068 : a1 < (l0.length : Int) := of_decide_eq_true y2_; obtain ⟨ad9922068, A215_4, c215_4, A215_5, c215_5, e9922068, hx9922068_0, hx9922068_1, hx9922068_2, hx9922068_3, hx9922068_4, hx9922068_5, hl9922068_4, hi215_4, hl9922068_5, hi215_5⟩ := at_T78 HR0.out a1 p9922068 q9922068; obtain rfl : ad214 = ad9922068 := (by injection e9922068); replace hx9922068_0 := cT_ HB.out hx9922068_0; replace hx9922068_1 := cT_ HB.out hx9922068_1; replace hx9922068_2 := cT_ HB.out hx9922068_2; replace hx9922068_3 := cT_ HB.out hx9922068_3; replace hx9922068_4 := cT_ HB.out hx9922068_4; replace hx9922068_5 := cT_ HB.out hx9922068_5; have HR215_4 := a_ hi215_4; have HC215_4 := a_ hl9922068_4; clear hi215_4 hl9922068_4; have HR215_5 := a_ hi215_5; have HC215_5 := a_ hl9922068_5; clear hi215_5 hl9922068_5; replace p9922068 := eq_true p9922068; replace q9922068 := eq_true q9922068; go_wp2_with (first | (refine gc_ 74 14 Try.func74 #[.int .i64 ((rd_T78 l0 a1).f0), .int .i64 1, .int .i64 8] ?_; (with_reducible refine (spec_l1In.calls ((rd_T78 l0 a1).f0) 1 8 _ _ Ax2.out).mono ?_); rintro e w' ⟨rfl, ⟨nd, rfl⟩⟩; refine ⟨_, rfl, ?_⟩) | (go_at_call 114; (with_reducible refine (spec_l4Bare.calls _ (rd_T78 l0 a1) tx4 _ ?side1 Ax4.out).mono ?_); (case side1 => refine C_one (by repeat (first | exact (Kd.C_below HR0.out y0_) | (with_reducible refine Kd.C_alloc ?_ _) | (with_reducible refine Kd.C_drewN ?_ _) | (with_reducible refine Kd.C_drew ?_))) a1 (by first | exact BD214.out.1 | omega | exact of_decide_eq_true y2_) (by first | exact BD214.out.2 | exact of_decide_eq_true y2_ | omega) _ rfl); rintro e w' ⟨rfl, ⟨nd, rfl⟩⟩))
     go_meet
     first
     | fail_if_success clear m1_0
     |(clear m1_0
       case rel => exact ⟨_, (!tx4), y1_, H', ⟨y61_⟩, ⟨y0_⟩⟩)
     first
     | fail_if_success clear m1_1
     |(clear m1_1
       case rel => exact ⟨_, (true), y1_, H', ⟨y61_⟩, ⟨y0_⟩⟩))
   case rest =>
    clear HC5; (try clear cx0); (try clear cx0b0); (try clear cx1); (try clear cx1b0); (try clear hx214_0); (try clear hx214_1); (try clear hx214_2); (try clear hx214_3); (try clear hx214_4); (try clear hx214_5); (try clear p214); (try clear q214); obtain ⟨kq, x20_4, rfl, HA, HJ4, HB⟩ := hcut; cases kq with
    | zero => exact absurd HA.out (by simp [spec_l4One.j0])
    | succ kj4 =>
     have H := HA.out; clear HA; simp only [spec_l4One.j0] at H; by_cases cx2 : x20_4 = true
     ·subst cx2; rw [if_pos rfl] at H; obtain rfl := Option.some.inj H; go_wp2
      go_ret
      exact ⟨y3_, y0_⟩
     ·replace cx2 := Bool.eq_false_iff.mpr cx2; subst cx2; rw [if_neg (show ¬ (false = true) by decide)] at H; have HC10 := a_ H; clear H; go_upto_region 4 with (fail)
      go_cut [43] (fun v43 wc => ∃ (kq : Nat) (x43_9 : Bool), v43 = .bool x43_9 ∧ Aside0 (spec_l4One.j1 kq l0 a1 x43_9 = some r) ∧ Aside0 (kq ≤ kj4) ∧ Aside0 (Below w.heap.size w wc))
      case first =>
       have H := HC10.out; clear HC10; by_cases cx3 : a1 = 0; rw [if_pos cx3] at H; have cx3b0 : (a1 == 0) = true := beq_iff_eq.mpr cx3; have cx3b1 : (a1 != 0) = false := bne_eq_false_iff_eq.mpr cx3; clear cx3; (first | rw [cx3b0] | (simp only [i64_w, i32_w]; rw [cx3b0]) | skip); by_cases cx4 : 0 ≤ a1; rw [if_pos cx4] at H; have cx4b0 : decide (0 ≤ a1) = true := decide_eq_true cx4; clear cx4; by_cases cx5 : a1 < (l0.length : Int); rw [if_pos cx5] at H; have cx5b0 : decide (a1 < (l0.length : Int)) = true := decide_eq_true cx5; clear cx5; by_cases cx6 : ((rd_T78 l0 a1).f1) = (-1); rw [if_pos cx6] at H; have cx6b0 : (((rd_T78 l0 a1).f1) == (-1)) = true := beq_iff_eq.mpr cx6; have cx6b1 : (((rd_T78 l0 a1).f1) != (-1)) = false := bne_eq_false_iff_eq.mpr cx6; clear cx6; by_cases cx7 : a1 > 0; rw [if_pos cx7] at H; have cx7b0 : decide (0 < a1) = true := decide_eq_true cx7; clear cx7; replace H := Option.bind_eq_some_iff.mp H; obtain ⟨tx8, Ay8, H⟩ := H; have Ax8 := a_ Ay8; clear Ay8; have H' := a_ H; clear H; have m2_0 := t_; have m2_1 := t_; have m2_3 := t_; have m2_4 := t_; have m2_6 := t_; have m2_7 := t_; have m2_8 := t_; have m2_10 := t_; rotate_left; rw [if_neg cx7] at H; have cx7b0 : decide (0 < a1) = false := decide_eq_false cx7; clear cx7; have H' := a_ H; clear H; have m2_0 := t_; have m2_1 := t_; have m2_3 := t_; have m2_4 := t_; have m2_6 := t_; have m2_11 := t_; rotate_left; rw [if_neg cx6] at H; have cx6b0 : (((rd_T78 l0 a1).f1) == (-1)) = false := beq_eq_false_iff_ne.mpr cx6; have cx6b1 : (((rd_T78 l0 a1).f1) != (-1)) = true := bne_iff_ne.mpr cx6; have H' := a_ H; clear H; have m2_0 := t_; have m2_1 := t_; have m2_3 := t_; have m2_4 := t_; have m2_6 := t_; have m2_12 := t_; rotate_left
       ·rw [if_neg cx5] at H; exact absurd H y92_
       ·rw [if_neg cx4] at H; exact absurd H y92_
       rw [if_neg cx3] at H; have cx3b0 : (a1 == 0) = false := beq_eq_false_iff_ne.mpr cx3; have cx3b1 : (a1 != 0) = true := bne_iff_ne.mpr cx3; (first | rw [cx3b0] | (simp only [i64_w, i32_w]; rw [cx3b0]) | skip); by_cases cx4 : a1 > 0; rw [if_pos cx4] at H; have cx4b0 : decide (0 < a1) = true := decide_eq_true cx4; clear cx4; by_cases cx5 : 0 ≤ a1; rw [if_pos cx5] at H; have cx5b0 : decide (0 ≤ a1) = true := decide_eq_true cx5; clear cx5; by_cases cx6 : a1 < (l0.length : Int); rw [if_pos cx6] at H; have cx6b0 : decide (a1 < (l0.length : Int)) = true := decide_eq_true cx6; clear cx6; replace H := Option.bind_eq_some_iff.mp H; obtain ⟨tx7, Ay7, H⟩ := H; have Ax7 := a_ Ay7; clear Ay7; have H' := a_ H; clear H; have m2_0 := t_; have m2_2 := t_; have m2_3 := t_; have m2_5 := t_; have m2_6 := t_; have m2_7 := t_; have m2_9 := t_; have m2_13 := t_; rotate_left
       ·rw [if_neg cx6] at H; exact absurd H y92_
       ·rw [if_neg cx5] at H; exact absurd H y92_
       rw [if_neg cx4] at H; have cx4b0 : decide (0 < a1) = false := decide_eq_false cx4; clear cx4; have H' := a_ H; clear H; have m2_11 := t_; rotate_left
       all_goals (
        first
        | fail_if_success clear m2_0
        |(clear m2_0; have p9922068 : 0 ≤ (a1 : Int) := of_decide_eq_true y2_; have q9922068 : a1 < (l0.length : Int) := of_decide_eq_true y2_)
        first
        | fail_if_success clear m2_1
        |(clear m2_1; obtain ⟨ad9922068, A218_4, c218_4, A218_5, c218_5, e9922068, hx9922068_0, hx9922068_1, hx9922068_2, hx9922068_3, hx9922068_4, hx9922068_5, hl9922068_4, hi218_4, hl9922068_5, hi218_5⟩ := at_T78 HR0.out a1 p9922068 q9922068)
        first
        | fail_if_success clear m2_2
        |(clear m2_2; obtain ⟨ad9922068, A220_4, c220_4, A220_5, c220_5, e9922068, hx9922068_0, hx9922068_1, hx9922068_2, hx9922068_3, hx9922068_4, hx9922068_5, hl9922068_4, hi220_4, hl9922068_5, hi220_5⟩ := at_T78 HR0.out a1 p9922068 q9922068)
        first
        | fail_if_success clear m2_3
        |(clear m2_3; obtain rfl : ad214 = ad9922068 := (by injection e9922068); replace hx9922068_0 := cT_ HB.out hx9922068_0; replace hx9922068_1 := cT_ HB.out hx9922068_1; replace hx9922068_2 := cT_ HB.out hx9922068_2; replace hx9922068_3 := cT_ HB.out hx9922068_3; replace hx9922068_4 := cT_ HB.out hx9922068_4; replace hx9922068_5 := cT_ HB.out hx9922068_5)
        first
        | fail_if_success clear m2_4
        |(clear m2_4; have HR218_4 := a_ hi218_4; have HC218_4 := a_ hl9922068_4; clear hi218_4 hl9922068_4; have HR218_5 := a_ hi218_5; have HC218_5 := a_ hl9922068_5; clear hi218_5 hl9922068_5)
        first
        | fail_if_success clear m2_5
        |(clear m2_5; have HR220_4 := a_ hi220_4; have HC220_4 := a_ hl9922068_4; clear hi220_4 hl9922068_4; have HR220_5 := a_ hi220_5; have HC220_5 := a_ hl9922068_5; clear hi220_5 hl9922068_5)
        first
        | fail_if_success clear m2_6
        |(clear m2_6; replace p9922068 := eq_true p9922068; replace q9922068 := eq_true q9922068)
        first
        | fail_if_success clear m2_7
        |(clear m2_7; go_wp2_with (first | (have mkq_ := m2_8; clear mkq_; go_at_call 74; (with_reducible refine (spec_l1In.calls ((rd_T78 l0 a1).f1) 0 (wrap64 (a1 - 1)) tx8 _ Ax8.out).mono ?_); rintro e w' ⟨rfl, ⟨nd, rfl⟩⟩) | (have mkq_ := m2_9; clear mkq_; go_at_call 74; (with_reducible refine (spec_l1In.calls ((rd_T78 l0 a1).f1) 0 (wrap64 (a1 - 1)) tx7 _ Ax7.out).mono ?_); rintro e w' ⟨rfl, ⟨nd, rfl⟩⟩))
          go_meet)
        first
        | fail_if_success clear m2_10
        |(clear m2_10
          case rel => exact ⟨_, (!tx8), y1_, H', ⟨y140_⟩, ⟨y0_⟩⟩)
        first
        | fail_if_success clear m2_11
        |(clear m2_11; go_wp2
          go_meet
          case rel => exact ⟨_, (false), y1_, H', ⟨y140_⟩, ⟨y0_⟩⟩)
        first
        | fail_if_success clear m2_12
        |(clear m2_12; go_wp2
          go_meet
          case rel => exact ⟨_, (true), y1_, H', ⟨y140_⟩, ⟨y0_⟩⟩)
        first
        | fail_if_success clear m2_13
        |(clear m2_13
          case rel => exact ⟨_, (!tx7), y1_, H', ⟨y140_⟩, ⟨y0_⟩⟩))
      case rest =>
       clear HC10; (try clear cx0); (try clear cx0b0); (try clear cx1); (try clear cx1b0); (try clear cx2); (try clear hx214_0); (try clear hx214_1); (try clear hx214_2); (try clear hx214_3); (try clear hx214_4); (try clear hx214_5); (try clear p214); (try clear q214); obtain ⟨kq, x43_9, rfl, HA, HJ9, HB⟩ := hcut; cases kq with
       | zero => exact absurd HA.out (by simp [spec_l4One.j1])
       | succ kj9 =>
        have H := HA.out; clear HA; simp only [spec_l4One.j1] at H; by_cases cx3 : x43_9 = true
        ·subst cx3; rw [if_pos rfl] at H; obtain rfl := Option.some.inj H; go_wp2
         go_ret
         exact ⟨y3_, y0_⟩
        ·replace cx3 := Bool.eq_false_iff.mpr cx3; subst cx3; rw [if_neg (show ¬ (false = true) by decide)] at H; have HC22 := a_ H; clear H; go_upto_region 6 with (fail)
         go_cut [51] (fun v51 wc => ∃ (kq : Nat) (x51_21 : Bool), v51 = .bool x51_21 ∧ Aside0 (spec_l4One.j2 kq l0 a1 x51_21 = some r) ∧ Aside0 (kq ≤ kj9) ∧ Aside0 (Below w.heap.size w wc))
         case first =>
          have H := HC22.out; clear HC22; by_cases cx4 : a1 > 0
          ·rw [if_pos cx4] at H; have cx4b0 : decide (0 < a1) = true := decide_eq_true cx4; clear cx4; (first | rw [cx4b0] | (simp only [i64_w, i32_w]; rw [cx4b0]) | skip); replace H := Option.bind_eq_some_iff.mp H; obtain ⟨tx5, Ay5, H⟩ := H; have Ax5 := a_ Ay5; clear Ay5; have H' := a_ H; clear H; go_wp2_with (first | (go_at_call 115; (with_reducible refine (spec_l4Line.calls kj9 _ _ l0 a1 tx5 _ ?side1 ?side2 Ax5.out).mono ?_); (case side1 => repeat (first | exact (Kd.C_below HR0.out HB.out) | (with_reducible refine Kd.C_alloc ?_ _) | (with_reducible refine Kd.C_drewN ?_ _) | (with_reducible refine Kd.C_drew ?_))); (case side2 => exact HC0.out); rintro e w' ⟨rfl, ⟨nd, rfl⟩⟩))
           go_meet
           case rel => exact ⟨_, (!tx5), y1_, H', ⟨by have := HJ4.out; have := HJ9.out; first | omega | exact Nat.le_refl _⟩, ⟨y0_⟩⟩
          ·rw [if_neg cx4] at H; have cx4b0 : decide (0 < a1) = false := decide_eq_false cx4; clear cx4; (first | rw [cx4b0] | (simp only [i64_w, i32_w]; rw [cx4b0]) | skip); have H' := a_ H; clear H; go_wp2
           go_meet
           case rel => exact ⟨_, (false), y1_, H', ⟨by have := HJ4.out; have := HJ9.out; first | omega | exact Nat.le_refl _⟩, ⟨y0_⟩⟩
         case rest =>
          clear HC22; (try clear cx0); (try clear cx0b0); (try clear cx1); (try clear cx1b0); (try clear cx2); (try clear cx3); (try clear hx214_0); (try clear hx214_1); (try clear hx214_2); (try clear hx214_3); (try clear hx214_4); (try clear hx214_5); (try clear p214); (try clear q214); obtain ⟨kq, x51_21, rfl, HA, HJ21, HB⟩ := hcut; cases kq with
          | zero => exact absurd HA.out (by simp [spec_l4One.j2])
          | succ kj21 =>
           have H := HA.out; clear HA; simp only [spec_l4One.j2] at H; by_cases cx4 : x51_21 = true; subst cx4; rw [if_pos rfl] at H; obtain rfl := Option.some.inj H; have m3_0 := t_; rotate_left; replace cx4 := Bool.eq_false_iff.mpr cx4; subst cx4; rw [if_neg (show ¬ (false = true) by decide)] at H; replace H := Option.bind_eq_some_iff.mp H; obtain ⟨tx5, Ay5, H⟩ := H; have Ax5 := a_ Ay5; clear Ay5; by_cases cx6 : tx5 > 7; rw [if_pos cx6] at H; have cx6b0 : decide (7 < tx5) = true := decide_eq_true cx6; clear cx6; obtain rfl := Option.some.inj H; have m3_1 := t_; rotate_left; rw [if_neg cx6] at H; have cx6b0 : decide (7 < tx5) = false := decide_eq_false cx6; clear cx6; by_cases cx7 : 0 ≤ a1; rw [if_pos cx7] at H; have cx7b0 : decide (0 ≤ a1) = true := decide_eq_true cx7; clear cx7; by_cases cx8 : a1 < (l0.length : Int); rw [if_pos cx8] at H; have cx8b0 : decide (a1 < (l0.length : Int)) = true := decide_eq_true cx8; clear cx8; have HC30 := a_ H; clear H; have m3_2 := t_; rotate_left
           ·rw [if_neg cx8] at H; exact absurd H y92_
           ·rw [if_neg cx7] at H; exact absurd H y92_
           all_goals (
            first
            | fail_if_success clear m3_0
            |(clear m3_0; go_wp2
              go_ret
              exact ⟨y3_, y0_⟩)
            first
            | fail_if_success clear m3_1
            |(clear m3_1; go_wp2_with (first | (refine gc_ 63 54 Try.func63 #[.slice (some ad214) l0.length c0, .int .i64 a1] ?_; (with_reducible refine (spec_l4Deep.calls kj21 _ _ l0 a1 tx5 _ ?side1 ?side2 Ax5.out).mono ?_); (case side1 => repeat (first | exact (Kd.C_below HR0.out HB.out) | (with_reducible refine Kd.C_alloc ?_ _) | (with_reducible refine Kd.C_drewN ?_ _) | (with_reducible refine Kd.C_drew ?_))); (case side2 => exact HC0.out); rintro e w' ⟨rfl, ⟨nd, rfl⟩⟩; refine ⟨_, rfl, ?_⟩))
              go_ret
              exact ⟨y3_, y0_⟩)
            first
            | fail_if_success clear m3_2
            |(clear m3_2; go_upto_if 60 with (first | (refine gc_ 63 54 Try.func63 #[.slice (some ad214) l0.length c0, .int .i64 a1] ?_; (with_reducible refine (spec_l4Deep.calls kj21 _ _ l0 a1 tx5 _ ?side1 ?side2 Ax5.out).mono ?_); (case side1 => repeat (first | exact (Kd.C_below HR0.out HB.out) | (with_reducible refine Kd.C_alloc ?_ _) | (with_reducible refine Kd.C_drewN ?_ _) | (with_reducible refine Kd.C_drew ?_))); (case side2 => exact HC0.out); rintro e w' ⟨rfl, ⟨nd, rfl⟩⟩; refine ⟨_, rfl, ?_⟩; have p9133985 : 0 ≤ (a1 : Int) := of_decide_eq_true y2_; have q9133985 : a1 < (l0.length : Int) := of_decide_eq_true y2_; obtain ⟨ad9133985, A224_4, c224_4, A224_5, c224_5, e9133985, hx9133985_0, hx9133985_1, hx9133985_2, hx9133985_3, hx9133985_4, hx9133985_5, hl9133985_4, hi224_4, hl9133985_5, hi224_5⟩ := at_T78 HR0.out a1 p9133985 q9133985; obtain rfl : ad214 = ad9133985 := (by injection e9133985); replace hx9133985_0 := cT_ HB.out hx9133985_0; replace hx9133985_1 := cT_ HB.out hx9133985_1; replace hx9133985_2 := cT_ HB.out hx9133985_2; replace hx9133985_3 := cT_ HB.out hx9133985_3; replace hx9133985_4 := cT_ HB.out hx9133985_4; replace hx9133985_5 := cT_ HB.out hx9133985_5; have HR224_4 := a_ hi224_4; have HC224_4 := a_ hl9133985_4; clear hi224_4 hl9133985_4; have HR224_5 := a_ hi224_5; have HC224_5 := a_ hl9133985_5; clear hi224_5 hl9133985_5; replace p9133985 := eq_true p9133985; replace q9133985 := eq_true q9133985))
              (try simp only [Act.put, List.setIfInBounds_toArray, List.set_cons_zero, List.set_cons_succ]); go_cut [] (fun wc => ∃ (kq : Nat), Aside0 (spec_l4One.j3 kq l0 a1 = some r) ∧ Aside0 (kq ≤ kj21) ∧ Aside0 (Below w.heap.size w wc))
              case first =>
               have H := HC30.out; clear HC30; by_cases cx9 : ((rd_T78 l0 a1).f0) = 2; rw [if_pos cx9] at H; have cx9b0 : (((rd_T78 l0 a1).f0) == 2) = true := beq_iff_eq.mpr cx9; have cx9b1 : (((rd_T78 l0 a1).f0) != 2) = false := bne_eq_false_iff_eq.mpr cx9; clear cx9; (first | rw [cx9b0] | (simp only [i64_w, i32_w]; rw [cx9b0]) | skip); replace H := Option.bind_eq_some_iff.mp H; obtain ⟨tx10, Ay10, H⟩ := H; have Ax10 := a_ Ay10; clear Ay10; by_cases cx11 : tx10 = 0; rw [if_pos cx11] at H; have cx11b0 : (tx10 == 0) = true := beq_iff_eq.mpr cx11; have cx11b1 : (tx10 != 0) = false := bne_eq_false_iff_eq.mpr cx11; clear cx11; have H' := a_ H; clear H; have m4_0 := t_; have m4_2 := t_; rotate_left; rw [if_neg cx11] at H; have cx11b0 : (tx10 == 0) = false := beq_eq_false_iff_ne.mpr cx11; have cx11b1 : (tx10 != 0) = true := bne_iff_ne.mpr cx11; obtain rfl := Option.some.inj H; have m4_0 := t_; have m4_3 := t_; rotate_left; rw [if_neg cx9] at H; have cx9b0 : (((rd_T78 l0 a1).f0) == 2) = false := beq_eq_false_iff_ne.mpr cx9; have cx9b1 : (((rd_T78 l0 a1).f0) != 2) = true := bne_iff_ne.mpr cx9; (first | rw [cx9b0] | (simp only [i64_w, i32_w]; rw [cx9b0]) | skip); have H' := a_ H; clear H; have m4_1 := t_; have m4_2 := t_; rotate_left
               all_goals (
                first
                | fail_if_success clear m4_0
                |(clear m4_0; go_wp2_with (first | (refine gc_ 112 65 Try.func112 #[.string ((rd_T78 l0 a1).f2)] ?_; (with_reducible refine (spec_l1Name.calls kj21 ((rd_T78 l0 a1).f2) tx10 _ Ax10.out).mono ?_); rintro e w' ⟨rfl, ⟨nd, rfl⟩⟩; refine ⟨_, rfl, ?_⟩)))
                first
                | fail_if_success clear m4_1
                |(clear m4_1; go_wp2)
                first
                | fail_if_success clear m4_2
                |(clear m4_2; go_meet
                  case rel => exact ⟨_, H', ⟨by have := HJ4.out; have := HJ9.out; have := HJ21.out; first | omega | exact Nat.le_refl _⟩, ⟨y0_⟩⟩)
                first
                | fail_if_success clear m4_3
                |(clear m4_3; go_ret
                  exact ⟨y3_, y0_⟩))
              case rest =>
               clear HC30; (try clear cx0); (try clear cx0b0); (try clear cx1); (try clear cx1b0); (try clear cx2); (try clear cx3); (try clear cx4); (try clear cx6); (try clear cx6b0); (try clear cx7); (try clear cx7b0); (try clear cx8); (try clear cx8b0); (try clear hx214_0); (try clear hx214_1); (try clear hx214_2); (try clear hx214_3); (try clear hx214_4); (try clear hx214_5); (try clear hx9133985_0); (try clear hx9133985_1); (try clear hx9133985_2); (try clear hx9133985_3); (try clear hx9133985_4); (try clear hx9133985_5); (try clear p214); (try clear p9133985); (try clear q214); (try clear q9133985); obtain ⟨kq, HA, HJ29, HB⟩ := hcut; cases kq with
               | zero => exact absurd HA.out (by simp [spec_l4One.j3])
               | succ kj29 =>
                have H := HA.out; clear HA; simp only [spec_l4One.j3] at H; replace H := Option.bind_eq_some_iff.mp H; obtain ⟨tx9, Ay9, H⟩ := H; have Ax9 := a_ Ay9; clear Ay9; by_cases cx10 : tx9 = true; subst cx10; rw [if_pos rfl] at H; by_cases cx11 : 0 ≤ a1; rw [if_pos cx11] at H; have cx11b0 : decide (0 ≤ a1) = true := decide_eq_true cx11; clear cx11; by_cases cx12 : a1 < (l0.length : Int); rw [if_pos cx12] at H; have cx12b0 : decide (a1 < (l0.length : Int)) = true := decide_eq_true cx12; clear cx12; by_cases cx13 : ((rd_T78 l0 a1).f0) = 7; rw [if_pos cx13] at H; have cx13b0 : (((rd_T78 l0 a1).f0) == 7) = true := beq_iff_eq.mpr cx13; have cx13b1 : (((rd_T78 l0 a1).f0) != 7) = false := bne_eq_false_iff_eq.mpr cx13; clear cx13; replace H := Option.bind_eq_some_iff.mp H; obtain ⟨tx14, Ay14, H⟩ := H; have Ax14 := a_ Ay14; clear Ay14; obtain rfl := Option.some.inj H; have m4_0 := t_; rotate_left; rw [if_neg cx13] at H; have cx13b0 : (((rd_T78 l0 a1).f0) == 7) = false := beq_eq_false_iff_ne.mpr cx13; have cx13b1 : (((rd_T78 l0 a1).f0) != 7) = true := bne_iff_ne.mpr cx13; obtain rfl := Option.some.inj H; have m4_0 := t_; rotate_left
                ·rw [if_neg cx12] at H; exact absurd H y92_
                ·rw [if_neg cx11] at H; exact absurd H y92_
                replace cx10 := Bool.eq_false_iff.mpr cx10; subst cx10; rw [if_neg (show ¬ (false = true) by decide)] at H; obtain rfl := Option.some.inj H; have m4_1 := t_; rotate_left
                all_goals (
                 go_wp2_with (first | (have mkq_ := m4_0; clear mkq_; refine gc_ 116 70 Try.func116 #[.pointer (some (ad214.add ((a1).toNat * 6)))] ?_; (with_reducible refine (spec_l4Arg.calls kj29 _ (rd_T78 l0 a1) _ _ ?side1 Ax9.out).mono ?_); (case side1 => refine C_one y157_ a1 (by first | exact BD214.out.1 | omega | exact of_decide_eq_true y2_) (by first | exact BD214.out.2 | exact of_decide_eq_true y2_ | omega) _ rfl); rintro e w' ⟨rfl, ⟨nd, rfl⟩⟩; refine ⟨_, rfl, ?_⟩; have p9634333 : 0 ≤ (a1 : Int) := of_decide_eq_true y2_; have q9634333 : a1 < (l0.length : Int) := of_decide_eq_true y2_; obtain ⟨ad9634333, A227_4, c227_4, A227_5, c227_5, e9634333, hx9634333_0, hx9634333_1, hx9634333_2, hx9634333_3, hx9634333_4, hx9634333_5, hl9634333_4, hi227_4, hl9634333_5, hi227_5⟩ := at_T78 HR0.out a1 p9634333 q9634333; obtain rfl : ad214 = ad9634333 := (by injection e9634333); replace hx9634333_0 := cT_ HB.out hx9634333_0; replace hx9634333_1 := cT_ HB.out hx9634333_1; replace hx9634333_2 := cT_ HB.out hx9634333_2; replace hx9634333_3 := cT_ HB.out hx9634333_3; replace hx9634333_4 := cT_ HB.out hx9634333_4; replace hx9634333_5 := cT_ HB.out hx9634333_5; have HR227_4 := a_ hi227_4; have HC227_4 := a_ hl9634333_4; clear hi227_4 hl9634333_4; have HR227_5 := a_ hi227_5; have HC227_5 := a_ hl9634333_5; clear hi227_5 hl9634333_5; replace p9634333 := eq_true p9634333; replace q9634333 := eq_true q9634333) | (refine gc_ 117 81 Try.func117 #[.slice A227_5 ((rd_T78 l0 a1).f5).length c227_5] ?_; (with_reducible refine (spec_l3Fault.calls kj29 _ _ ((rd_T78 l0 a1).f5) tx14 _ ?side1 ?side2 Ax14.out).mono ?_); (case side1 => repeat (first | exact (Kd.C_below HR227_5.out y0_) | (with_reducible refine Kd.C_alloc ?_ _) | (with_reducible refine Kd.C_drewN ?_ _) | (with_reducible refine Kd.C_drew ?_))); (case side2 => exact HC227_5.out); rintro e w9766551 ⟨rfl, hb⟩; refine ⟨_, rfl, ?_⟩; have n0_ := a_ (below_step y0_ hb); clear HB; have HB := n0_; clear n0_; (try clear hb); (try clear hb9984412); (try clear hk); (try clear hi)) | (have mkq_ := m4_1; clear mkq_; refine gc_ 116 70 Try.func116 #[.pointer (some (ad214.add ((a1).toNat * 6)))] ?_; (with_reducible refine (spec_l4Arg.calls kj29 _ (rd_T78 l0 a1) _ _ ?side1 Ax9.out).mono ?_); (case side1 => refine C_one y157_ a1 (by first | exact BD214.out.1 | omega | exact of_decide_eq_true y2_) (by first | exact BD214.out.2 | exact of_decide_eq_true y2_ | omega) _ rfl); rintro e w' ⟨rfl, ⟨nd, rfl⟩⟩; refine ⟨_, rfl, ?_⟩))
                 go_ret
                 exact ⟨y3_, y0_⟩)))
  ·rw [if_neg cx1] at H; exact absurd H y92_
 ·rw [if_neg cx0] at H; exact absurd H y92_

/-! ### spec_l4Many: function 118 -/
def spec_l4Many.j0 : Nat → Int → Int → Bool → Bool → Option (Bool)
  | 0, _, _, _, _ => none
  | k + 1, x1, x5, x6, x10 => if x10 = true then (some (decide (x1 ≥ 2))) else (if x5 = 8 then (some (x1 == 2)) else (some (x1 == 0)))
def spec_l4Many.f (k : Nat) (a0 : Int) (a1 : Int) : Option (Bool) := if a0 = 1 then (some (decide (a1 ≥ 1))) else (if a0 = 3 then (spec_l4Many.j0 k a1 a0 (a0 == 1) (a0 == 3)) else (spec_l4Many.j0 k a1 a0 (a0 == 1) (a0 == 4)))
theorem spec_l4Many.mono_l : ∀ k, (∀ y0 y1 y2 y3, LeO (spec_l4Many.j0 k y0 y1 y2 y3) (spec_l4Many.j0 (k + 1) y0 y1 y2 y3))
  | 0 => fun _ _ _ _ r h => by simp [spec_l4Many.j0] at h
  | k + 1 => by
    have ih0 := spec_l4Many.mono_l k
    · intro y0 y1 y2 y3
      unfold spec_l4Many.j0
      repeat' (with_reducible first | exact ih0 _ _ _ _ | exact LeO.refl _ | exact LeO.none _ | refine LeO.ite ?_ ?_ | refine LeO.bind ?_ (fun _ => ?_))
theorem spec_l4Many.mono : ∀ a0 a1 k, LeO (spec_l4Many.f k a0 a1) (spec_l4Many.f (k + 1) a0 a1) := by
  intro a0 a1 k
  have ih0 := spec_l4Many.mono_l k
  unfold spec_l4Many.f
  repeat' (with_reducible first | exact ih0 _ _ _ _ | exact LeO.refl _ | exact LeO.none _ | refine LeO.ite ?_ ?_ | refine LeO.bind ?_ (fun _ => ?_))
set_option maxHeartbeats 8000000 in
set_option maxRecDepth 100000 in
theorem spec_l4Many.calls (k : Nat) (a0 : Int) (a1 : Int) (r : Bool) (w : World) (h : spec_l4Many.f k a0 a1 = some r) :
    Calls Try.prog 118 #[.int .i64 a0, .int .i64 a1] w fun e w' => e = .returned (.bool r) ∧ Drawn0 w w' := by
 have H : (if a0 = 1 then (some (decide (a1 ≥ 1))) else (if a0 = 3 then (spec_l4Many.j0 k a1 a0 (a0 == 1) (a0 == 3)) else (spec_l4Many.j0 k a1 a0 (a0 == 1) (a0 == 4)))) = some r := h; clear h; by_cases cx0 : a0 = 1
 ·rw [if_pos cx0] at H; have cx0b0 : (a0 == 1) = true := beq_iff_eq.mpr cx0; have cx0b1 : (a0 != 1) = false := bne_eq_false_iff_eq.mpr cx0; clear cx0; obtain rfl := Option.some.inj H; go_enter Try.func118, Try.ntmps118
  go_wp2
  go_ret
  exact ⟨y1_, y8_⟩
 ·rw [if_neg cx0] at H; have cx0b0 : (a0 == 1) = false := beq_eq_false_iff_ne.mpr cx0; have cx0b1 : (a0 != 1) = true := bne_iff_ne.mpr cx0; have HC4 := a_ H; clear H; go_enter Try.func118, Try.ntmps118
  go_upto_if 10 with (fail)
  go_cut [6, 10] (fun v6 v10 wc => ∃ (kq : Nat) (x6_3 : Bool) (x10_3 : Bool), v6 = .bool x6_3 ∧ v10 = .bool x10_3 ∧ Aside0 (spec_l4Many.j0 kq a1 a0 x6_3 x10_3 = some r) ∧ Aside0 (kq ≤ k) ∧ Drawn0 w wc)
  case first =>
   have H := HC4.out; clear HC4; by_cases cx1 : a0 = 3
   ·rw [if_pos cx1] at H; have cx1b0 : (a0 == 3) = true := beq_iff_eq.mpr cx1; have cx1b1 : (a0 != 3) = false := bne_eq_false_iff_eq.mpr cx1; clear cx1; (first | rw [cx1b0] | (simp only [i64_w, i32_w]; rw [cx1b0]) | skip); have H' := a_ H; clear H; go_wp2
    go_meet
    case rel => exact ⟨_, ((a0 == 1)), ((a0 == 3)), y1_, y1_, H', ⟨y61_⟩, y8_⟩
   ·rw [if_neg cx1] at H; have cx1b0 : (a0 == 3) = false := beq_eq_false_iff_ne.mpr cx1; have cx1b1 : (a0 != 3) = true := bne_iff_ne.mpr cx1; (first | rw [cx1b0] | (simp only [i64_w, i32_w]; rw [cx1b0]) | skip); have H' := a_ H; clear H; go_wp2
    go_meet
    case rel => exact ⟨_, ((a0 == 1)), ((a0 == 4)), y1_, y1_, H', ⟨y61_⟩, y8_⟩
  case rest =>
   clear HC4; (try clear cx0); (try clear cx0b0); (try clear cx0b1); obtain ⟨kq, x6_3, x10_3, rfl, rfl, HA, HJ3, ⟨mc3, rfl⟩⟩ := hcut; cases kq with
   | zero => exact absurd HA.out (by simp [spec_l4Many.j0])
   | succ kj3 =>
    have H := HA.out; clear HA; simp only [spec_l4Many.j0] at H; by_cases cx1 : x10_3 = true; subst cx1; rw [if_pos rfl] at H; obtain rfl := Option.some.inj H; rotate_left; replace cx1 := Bool.eq_false_iff.mpr cx1; subst cx1; rw [if_neg (show ¬ (false = true) by decide)] at H; by_cases cx2 : a0 = 8; rw [if_pos cx2] at H; have cx2b0 : (a0 == 8) = true := beq_iff_eq.mpr cx2; have cx2b1 : (a0 != 8) = false := bne_eq_false_iff_eq.mpr cx2; clear cx2; obtain rfl := Option.some.inj H; rotate_left; rw [if_neg cx2] at H; have cx2b0 : (a0 == 8) = false := beq_eq_false_iff_ne.mpr cx2; have cx2b1 : (a0 != 8) = true := bne_iff_ne.mpr cx2; obtain rfl := Option.some.inj H; rotate_left
    all_goals (
     go_wp2
     go_ret
     exact ⟨y1_, y8_⟩)

end Go.Proofs.Ytcpcenhpmcfmjaa.L
