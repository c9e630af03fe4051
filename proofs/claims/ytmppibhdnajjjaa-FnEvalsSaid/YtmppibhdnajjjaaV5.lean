-- Written by a program of this session's own (xp.py) for this seat.
import Derived.Test.YtmppibhdnajjjaaVZ
import Derived.Test.YtmppibhdnajjjaaVH
import Derived.Test.YtmppibhdnajjjaaV0
import Derived.Test.YtmppibhdnajjjaaV4
namespace Go.Proofs.Ytmppibhdnajjjaa.V
open Go.RowKit Go.Proofs.YtmppibhdnajjjaaW.PrintWords Go.Proofs.YtmppibhdnajjjaaW.PrintLast Go.Proofs.YtmppibhdnajjjaaW.PrintMore
attribute [local go_sem] Instr.field asAgg
attribute [local go_sem] max2_int min2_int max_two min_two max_three min_three max_four min_four   -- for this text's walks alone
set_option linter.unusedVariables false
set_option linter.unusedSimpArgs false

/-! ### cmp_isNaN_int64: function 112 -/
def cmp_isNaN_int64.f (a0 : Int) : Option (Bool) := some (a0 != a0)
set_option maxHeartbeats 8000000 in
set_option maxRecDepth 100000 in
theorem cmp_isNaN_int64.calls (a0 : Int) (r : Bool) (w : World) (h : cmp_isNaN_int64.f a0 = some r) :
    Calls Try.prog 112 #[.int .i64 a0] w fun e w' => e = .returned (.bool r) ∧ Drawn0 w w' := by
 have H : (some (a0 != a0)) = some r := h; clear h; obtain rfl := Option.some.inj H; go_enter Try.func112, Try.ntmps112
 go_wp2
 go_ret
 exact ⟨y3_, y17_⟩

/-! ### cmp_Less_int64: function 96 -/
def cmp_Less_int64.f (a0 : Int) (a1 : Int) : Option (Bool) := (cmp_isNaN_int64.f a0).bind fun t243 => (if t243 = true then ((cmp_isNaN_int64.f a1).bind fun t244 => (if t244 = true then (some (decide (a0 < a1))) else (some true))) else (some (decide (a0 < a1))))
set_option maxHeartbeats 8000000 in
set_option maxRecDepth 100000 in
theorem cmp_Less_int64.calls (a0 : Int) (a1 : Int) (r : Bool) (w : World) (h : cmp_Less_int64.f a0 a1 = some r) :
    Calls Try.prog 96 #[.int .i64 a0, .int .i64 a1] w fun e w' => e = .returned (.bool r) ∧ Drawn0 w w' := by
 have H : ((cmp_isNaN_int64.f a0).bind fun t243 => (if t243 = true then ((cmp_isNaN_int64.f a1).bind fun t244 => (if t244 = true then (some (decide (a0 < a1))) else (some true))) else (some (decide (a0 < a1))))) = some r := h; clear h; replace H := Option.bind_eq_some_iff.mp H; obtain ⟨tx0, Ay0, H⟩ := H; have Ax0 := a_ Ay0; clear Ay0; by_cases cx1 : tx0 = true; subst cx1; rw [if_pos rfl] at H; replace H := Option.bind_eq_some_iff.mp H; obtain ⟨tx2, Ay2, H⟩ := H; have Ax2 := a_ Ay2; clear Ay2; by_cases cx3 : tx2 = true; subst cx3; rw [if_pos rfl] at H; obtain rfl := Option.some.inj H; rotate_left; replace cx3 := Bool.eq_false_iff.mpr cx3; subst cx3; rw [if_neg (show ¬ (false = true) by decide)] at H; obtain rfl := Option.some.inj H; rotate_left; replace cx1 := Bool.eq_false_iff.mpr cx1; subst cx1; rw [if_neg (show ¬ (false = true) by decide)] at H; obtain rfl := Option.some.inj H; rotate_left
 all_goals (
  go_enter Try.func96, Try.ntmps96
  go_wp2_with (first | ((with_reducible refine gate_callee (f := 112) rfl ?_); refine gc_ 112 6 Try.func112 #[.int .i64 a0] ?_; (with_reducible refine (cmp_isNaN_int64.calls a0 _ _ Ax0.out).mono ?_); rintro e w' ⟨rfl, ⟨nd, rfl⟩⟩; refine ⟨_, rfl, ?_⟩) | (go_at_call 112; (with_reducible refine (cmp_isNaN_int64.calls a1 _ _ Ax2.out).mono ?_); rintro e w' ⟨rfl, ⟨nd, rfl⟩⟩))
  go_ret
  exact ⟨y3_, y17_⟩)

/-! ### slices_insertionSortOrdered_int64: function 90 -/
mutual
def slices_insertionSortOrdered_int64.l0 : Nat → List Int → Int → Int → Int → Option (List Int)
  | 0, _, _, _, _ => none
  | k + 1, x0, x1, x2, x6 => if x6 < x2 then (slices_insertionSortOrdered_int64.l1 k x0 x1 x2 x6 x6) else (some x0)
def slices_insertionSortOrdered_int64.l1 : Nat → List Int → Int → Int → Int → Int → Option (List Int)
  | 0, _, _, _, _, _ => none
  | k + 1, x0, x1, x2, x6, x7 => if x7 > x1 then (if 0 ≤ x7 then (if x7 < (x0.length : Int) then (if 0 ≤ (wrap64 (x7 - 1)) then (if (wrap64 (x7 - 1)) < (x0.length : Int) then ((cmp_Less_int64.f (rd x0 x7) (rd x0 (wrap64 (x7 - 1)))).bind fun t247 => (if t247 = true then (slices_insertionSortOrdered_int64.l1 k ((x0.set (x7 : Int).toNat (rd x0 (wrap64 (x7 - 1)))).set ((wrap64 (x7 - 1)) : Int).toNat (rd x0 x7)) x1 x2 x6 (wrap64 (x7 - 1))) else (slices_insertionSortOrdered_int64.l0 k x0 x1 x2 (wrap64 (x6 + 1))))) else (none)) else (none)) else (none)) else (none)) else (slices_insertionSortOrdered_int64.l0 k x0 x1 x2 (wrap64 (x6 + 1)))
end
def slices_insertionSortOrdered_int64.f (k : Nat) (l0 : List Int) (a1 : Int) (a2 : Int) : Option (List Int) := slices_insertionSortOrdered_int64.l0 k l0 a1 a2 (wrap64 (a1 + 1))
theorem slices_insertionSortOrdered_int64.mono_l : ∀ k, (∀ y0 y1 y2 y3, LeO (slices_insertionSortOrdered_int64.l0 k y0 y1 y2 y3) (slices_insertionSortOrdered_int64.l0 (k + 1) y0 y1 y2 y3)) ∧ (∀ y0 y1 y2 y3 y4, LeO (slices_insertionSortOrdered_int64.l1 k y0 y1 y2 y3 y4) (slices_insertionSortOrdered_int64.l1 (k + 1) y0 y1 y2 y3 y4))
  | 0 => ⟨fun _ _ _ _ r h => by simp [slices_insertionSortOrdered_int64.l0] at h, fun _ _ _ _ _ r h => by simp [slices_insertionSortOrdered_int64.l1] at h⟩
  | k + 1 => by
    obtain ⟨ih0, ih1⟩ := slices_insertionSortOrdered_int64.mono_l k
    refine ⟨?_, ?_⟩
    · intro y0 y1 y2 y3
      unfold slices_insertionSortOrdered_int64.l0
      repeat' (with_reducible first | exact ih0 _ _ _ _ | exact ih1 _ _ _ _ _ | exact LeO.refl _ | exact LeO.none _ | refine LeO.ite ?_ ?_ | refine LeO.bind ?_ (fun _ => ?_))
    · intro y0 y1 y2 y3 y4
      unfold slices_insertionSortOrdered_int64.l1
      repeat' (with_reducible first | exact ih0 _ _ _ _ | exact ih1 _ _ _ _ _ | exact LeO.refl _ | exact LeO.none _ | refine LeO.ite ?_ ?_ | refine LeO.bind ?_ (fun _ => ?_))
theorem slices_insertionSortOrdered_int64.mono : ∀ a0 a1 a2 k, LeO (slices_insertionSortOrdered_int64.f k a0 a1 a2) (slices_insertionSortOrdered_int64.f (k + 1) a0 a1 a2) := by
  intro a0 a1 a2 k
  obtain ⟨ih0, ih1⟩ := slices_insertionSortOrdered_int64.mono_l k
  unfold slices_insertionSortOrdered_int64.f
  repeat' (with_reducible first | exact ih0 _ _ _ _ | exact ih1 _ _ _ _ _ | exact LeO.refl _ | exact LeO.none _ | refine LeO.ite ?_ ?_ | refine LeO.bind ?_ (fun _ => ?_))
def slices_insertionSortOrdered_int64.T4 : Bool × List (List Nat × List Nat) := (true, [([], []), ([], []), ([0, 1], [0, 1]), ([2], [2]), ([3], [3]), ([3], [3]), ([4, 5, 3], [3, 4, 5]), ([6, 3], [3, 6]), ([3], [3]), ([3], [3]), ([9, 3], [3, 9]), ([8, 10, 3], [3, 8, 10]), ([11, 3], [3, 11]), ([7, 12, 3, 3], [3, 7, 12]), ([3, 13], [3, 13])])
def slices_insertionSortOrdered_int64.B4 : List Nat := [0, 0, 3, 7, 15, 15, 63, 127, 15, 15, 527, 1807, 3855, 8191, 16383]
theorem slices_insertionSortOrdered_int64.tab4 : rtab .any (opsOf Try.f90 4) = slices_insertionSortOrdered_int64.T4 := by kernel_rfl
theorem slices_insertionSortOrdered_int64.bits4 : waitsOk slices_insertionSortOrdered_int64.T4.2 slices_insertionSortOrdered_int64.B4 = true := by kernel_rfl
def slices_insertionSortOrdered_int64.T6 : Bool × List (List Nat × List Nat) := (true, [([], []), ([], []), ([], []), ([], []), ([3], [3]), ([], []), ([], []), ([6], [6]), ([5, 7], [5, 7]), ([8], [8]), ([], []), ([], []), ([10, 11], [10, 11]), ([12], [12]), ([0, 1, 0, 1, 5, 6, 7, 8, 9, 13], [0, 1]), ([14, 9, 0, 1, 5, 6, 7, 8, 9, 13], [9, 14]), ([2, 4, 0, 1, 2, 3, 4, 5, 6, 7, 8, 9, 10, 11, 12, 13, 14, 15], [2, 4]), ([16, 13, 15, 0, 1, 2, 3, 4, 5, 6, 7, 8, 9, 10, 11, 12, 13, 14, 15], [13, 16])])
def slices_insertionSortOrdered_int64.B6 : List Nat := [0, 0, 0, 0, 8, 0, 0, 64, 224, 480, 0, 0, 3072, 7168, 16355, 32739, 65535, 131071]
theorem slices_insertionSortOrdered_int64.tab6 : rtab .any (opsOf Try.f90 6) = slices_insertionSortOrdered_int64.T6 := by kernel_rfl
theorem slices_insertionSortOrdered_int64.bits6 : waitsOk slices_insertionSortOrdered_int64.T6.2 slices_insertionSortOrdered_int64.B6 = true := by kernel_rfl
set_option maxHeartbeats 8000000 in
set_option maxRecDepth 100000 in
theorem slices_insertionSortOrdered_int64.calls (k : Nat) (P0_ : Nat → Prop) (u9000_ : Value) (l0 : List Int) (a1 : Int) (a2 : Int) (r : List Int) (w0 w : World) (hB : Below w0.heap.size w0 w) (ho0 : Kd.R (Kd.int .i64) 2 w w0.heap.size P0_ u9000_ l0) (h : slices_insertionSortOrdered_int64.f k l0 a1 a2 = some r) :
    Calls Try.prog 90 #[u9000_, .int .i64 a1, .int .i64 a2] w fun e w' => e = .returned (.tuple #[]) ∧ Kd.R (Kd.int .i64) 2 w' w0.heap.size (fun k_ => (P0_ k_ ∨ w.heap.size ≤ k_)) u9000_ r ∧ Below w0.heap.size w0 w' ∧ Kept w w' (fun k_ => P0_ k_) := by
 have HO0 := a_ (show Kd.R (Kd.int .i64) 2 w w0.heap.size (fun k_ => (P0_ k_ ∨ w.heap.size ≤ k_)) u9000_ l0 from Kd.R_mono ho0 (fun k_ hk => (.inl hk))); have HK := a_ (Kept.refl w (fun k_ => P0_ k_)); have HW0 := a_ hB.size; have HB := a_ hB; clear hB; have H : (slices_insertionSortOrdered_int64.l0 k l0 a1 a2 (wrap64 (a1 + 1))) = some r := h; clear h; have H' := a_ H; clear H; go_enter Try.func90, Try.ntmps90
 go_wp2
 go_loopg [6] k (fun kq v6 w' => ∃ (x0_1 : List Int) (x6_1 : Int), v6 = .int .i64 x6_1 ∧ Aside0 (slices_insertionSortOrdered_int64.l0 kq x0_1 a1 a2 x6_1 = some r) ∧ Aside0 (kq ≤ k) ∧ Aside0 (Kd.R (Kd.int .i64) 2 w' w0.heap.size (fun k_ => (P0_ k_ ∨ w.heap.size ≤ k_)) u9000_ x0_1) ∧ Aside0 (Kept w w' (fun k_ => P0_ k_)) ∧ Aside0 (Below w0.heap.size w0 w'))
 case atStart => exact ⟨(l0), (wrap64 (a1 + 1)), y3_, H', ⟨Nat.le_refl _⟩, ⟨y101_⟩, ⟨y11_⟩, ⟨y0_⟩⟩
 case round =>
  clear H'; obtain ⟨x0_1, x6_1, rfl, HA, HK1, HO_0, HK, HB⟩ := hrel; cases gk with
  | zero => exact absurd HA.out (by simp [slices_insertionSortOrdered_int64.l0])
  | succ k1 =>
   have H := HA.out; clear HA; simp only [slices_insertionSortOrdered_int64.l0] at H; by_cases cx0 : x6_1 < a2
   ·rw [if_pos cx0] at H; have cx0b0 : decide (x6_1 < a2) = true := decide_eq_true cx0; clear cx0; have H' := a_ H; clear H; go_wp2
    go_loopg [7] k1 (fun kq v7 w' => ∃ (x0_2 : List Int) (x7_2 : Int), v7 = .int .i64 x7_2 ∧ Aside0 (slices_insertionSortOrdered_int64.l1 kq x0_2 a1 a2 x6_1 x7_2 = some r) ∧ Aside0 (kq ≤ k1) ∧ Aside0 (Kd.R (Kd.int .i64) 2 w' w0.heap.size (fun k_ => (P0_ k_ ∨ w.heap.size ≤ k_)) u9000_ x0_2) ∧ Aside0 (Kept w w' (fun k_ => P0_ k_)) ∧ Aside0 (Below w0.heap.size w0 w'))
    case atStart => exact ⟨(x0_1), (x6_1), y3_, H', ⟨Nat.le_refl _⟩, ⟨y51_⟩, ⟨y11_⟩, ⟨y0_⟩⟩
    case round =>
     clear H'; (try clear cx0); (try clear cx0b0); obtain ⟨x0_2, x7_2, rfl, HA, HK2, HO_0, HK, HB⟩ := hrel; cases gk with
     | zero => exact absurd HA.out (by simp [slices_insertionSortOrdered_int64.l1])
     | succ k2 =>
      have H := HA.out; clear HA; simp only [slices_insertionSortOrdered_int64.l1] at H; by_cases cx1 : x7_2 > a1; rw [if_pos cx1] at H; have cx1b0 : decide (a1 < x7_2) = true := decide_eq_true cx1; clear cx1; by_cases cx2 : 0 ≤ x7_2; rw [if_pos cx2] at H; have cx2b0 : decide (0 ≤ x7_2) = true := decide_eq_true cx2; clear cx2; by_cases cx3 : x7_2 < (x0_2.length : Int); rw [if_pos cx3] at H; have cx3b0 : decide (x7_2 < (x0_2.length : Int)) = true := decide_eq_true cx3; clear cx3; obtain ⟨ji8, hji8⟩ : ∃ j_ : Int, (wrap64 (x7_2 - 1)) = j_ := ⟨_, rfl⟩; replace H : (if 0 ≤ (ji8) then (if (ji8) < (x0_2.length : Int) then ((cmp_Less_int64.f (rd x0_2 x7_2) (rd x0_2 (ji8))).bind fun t247 => (if t247 = true then (slices_insertionSortOrdered_int64.l1 k2 ((x0_2.set (x7_2 : Int).toNat (rd x0_2 (ji8))).set ((ji8) : Int).toNat (rd x0_2 x7_2)) a1 a2 x6_1 ji8) else (slices_insertionSortOrdered_int64.l0 k2 x0_2 a1 a2 (wrap64 (x6_1 + 1))))) else (none)) else (none)) = some r := by first | (rw [hji8] at H; exact H) | (simp only [hji8] at H ⊢; exact H)
      have hji8w : (IntKind.i64.wrap (x7_2 - 1)) = ji8 := (i64_w _).trans hji8; by_cases cx4 : 0 ≤ (ji8); rw [if_pos cx4] at H; have cx4b0 : decide (0 ≤ (ji8)) = true := decide_eq_true cx4; clear cx4; by_cases cx5 : (ji8) < (x0_2.length : Int); rw [if_pos cx5] at H; have cx5b0 : decide ((ji8) < (x0_2.length : Int)) = true := decide_eq_true cx5; clear cx5; replace H := Option.bind_eq_some_iff.mp H; obtain ⟨tx6, Ay6, H⟩ := H; have Ax6 := a_ Ay6; clear Ay6; by_cases cx7 : tx6 = true; subst cx7; rw [if_pos rfl] at H; obtain ⟨y250, hy_⟩ : ∃ y_ : List Int, y_ = (x0_2.set (x7_2 : Int).toNat (rd x0_2 (ji8))) := ⟨_, rfl⟩; replace H : (slices_insertionSortOrdered_int64.l1 k2 (y250.set ((ji8) : Int).toNat (rd x0_2 x7_2)) a1 a2 x6_1 ji8) = some r := z0_; have Ny250 := a_ hy_; clear hy_; obtain ⟨y251, hy_⟩ : ∃ y_ : List Int, y_ = (y250.set ((ji8) : Int).toNat (rd x0_2 x7_2)) := ⟨_, rfl⟩; replace H : (slices_insertionSortOrdered_int64.l1 k2 y251 a1 a2 x6_1 ji8) = some r := z0_; have Ny251 := a_ hy_; clear hy_; have H' := a_ H; clear H; have m1_0 := t_; have m1_2 := t_; have m1_3 := t_; rotate_left; replace cx7 := Bool.eq_false_iff.mpr cx7; subst cx7; rw [if_neg (show ¬ (false = true) by decide)] at H; have H' := a_ H; clear H; have m1_0 := t_; have m1_2 := t_; have m1_4 := t_; have m1_6 := t_; rotate_left
      ·rw [if_neg cx5] at H; exact absurd H y79_
      ·rw [if_neg cx4] at H; exact absurd H y79_
      ·rw [if_neg cx3] at H; exact absurd H y79_
      ·rw [if_neg cx2] at H; exact absurd H y79_
      rw [if_neg cx1] at H; have cx1b0 : decide (a1 < x7_2) = false := decide_eq_false cx1; clear cx1; have H' := a_ H; clear H; have m1_1 := t_; have m1_5 := t_; have m1_6 := t_; rotate_left
      all_goals (
       try go_wp2
       have n0_ := a_ (Kd.R_drew HO_0.out); have n1_ := a_ (Kept.drew HK.out); have n2_ := a_ (below_drew1 HB.out); clear HO_0; clear HK; clear HB; have HO_0 := n0_; have HK := n1_; have HB := n2_; clear n0_ n1_ n2_
       first
       | fail_if_success clear m1_0
       |(clear m1_0; obtain ⟨Ao9997294, co9997294, eo9997294⟩ := Kd.R_slice HO_0.out; (first | subst eo9997294 | (injection eo9997294 with f1_ f2_ f3_; have f4_ := f1_.symm; have f5_ := f3_.symm; clear f1_ f2_ f3_; subst f4_; subst f5_)); have p9922068 : 0 ≤ (x7_2 : Int) := of_decide_eq_true y1_; have q9922068 : x7_2 < (x0_2.length : Int) := of_decide_eq_true y1_; obtain ⟨ad9922068, e9922068, hx9922068_0⟩ := Kd.at_int (Kd.R_reads' HO_0.out).2.2 x7_2 p9922068 q9922068; cases e9922068; replace p9922068 := eq_true p9922068; replace q9922068 := eq_true q9922068; have p9548309 : 0 ≤ ((ji8) : Int) := of_decide_eq_true y1_; have q9548309 : (ji8) < (x0_2.length : Int) := of_decide_eq_true y1_; obtain ⟨ad9548309, e9548309, hx9548309_0⟩ := Kd.at_int (Kd.R_reads' HO_0.out).2.2 (ji8) p9548309 q9548309; obtain rfl : ad9922068 = ad9548309 := (by injection e9548309); replace p9548309 := eq_true p9548309; replace q9548309 := eq_true q9548309; refine start_ (n := 15) (S := fun w' => w'.cell? (ad9922068.add (x7_2).toNat) = some (.int .i64 (rd x0_2 x7_2)) ∧ w'.cell? (ad9922068.add ((ji8)).toNat) = some (.int .i64 (rd x0_2 (ji8)))) (ds := []) #[F_,F_,F_,F_,F_,F_,F_,F_,F_,F_,F_,F_,F_,F_,F_] y50_ rfl rfl ⟨hx9922068_0, hx9548309_0⟩ (fun hHeld => ?_); refine with_tabW slices_insertionSortOrdered_int64.tab4 slices_insertionSortOrdered_int64.bits4 (fun HT_ HW_ => ?_); generalize wr.drew = w9497698 at HO_0 HK HB hx9922068_0 hx9548309_0 hHeld ⊢)
       first
       | fail_if_success clear m1_1
       |(clear m1_1; refine start_ (n := 15) (S := fun w' => True) (ds := []) #[F_,F_,F_,F_,F_,F_,F_,F_,F_,F_,F_,F_,F_,F_,F_] y50_ rfl rfl trivial (fun hHeld => ?_); refine with_tabW slices_insertionSortOrdered_int64.tab4 slices_insertionSortOrdered_int64.bits4 (fun HT_ HW_ => ?_); generalize wr.drew = w9497698 at HO_0 HK HB hHeld ⊢)
       refine pure_ (i := 0) (N := some 16) #[T_,F_,F_,F_,F_,F_,F_,F_,F_,F_,F_,F_,F_,F_,F_] rfl rfl z1_ (fun _ _ _ h => h) (Or.inl ⟨rfl, z2_⟩) z3_ ?_; refine pure_ (i := 1) (N := some 17) #[T_,T_,F_,F_,F_,F_,F_,F_,F_,F_,F_,F_,F_,F_,F_] rfl rfl z1_ (fun _ _ _ h => h) (Or.inl ⟨rfl, z2_⟩) z3_ ?_; refine pure_ (i := 2) (N := some 18) #[T_,T_,T_,F_,F_,F_,F_,F_,F_,F_,F_,F_,F_,F_,F_] rfl rfl z1_ (fun _ _ _ h => h) (Or.inl ⟨rfl, z2_⟩) z3_ ?_; refine pure_ (i := 3) (N := some 19) #[T_,T_,T_,T_,F_,F_,F_,F_,F_,F_,F_,F_,F_,F_,F_] rfl rfl z1_ (fun _ _ _ h => h) (Or.inl ⟨rfl, z2_⟩) z3_ ?_
       first
       | fail_if_success clear m1_2
       |(clear m1_2; refine pure_ (i := 4) (N := some 20) #[T_,T_,T_,T_,T_,F_,F_,F_,F_,F_,F_,F_,F_,F_,F_] rfl rfl z1_ (fun _ _ _ h => h) (Or.inl ⟨rfl, z2_⟩) z3_ ?_; refine pure_ (i := 5) (N := some 21) #[T_,T_,T_,T_,T_,T_,F_,F_,F_,F_,F_,F_,F_,F_,F_] rfl rfl z1_ (fun _ _ _ h => h) (Or.inl ⟨rfl, z2_⟩) z3_ ?_; refine pure_ (i := 6) (N := some 22) #[T_,T_,T_,T_,T_,T_,T_,F_,F_,F_,F_,F_,F_,F_,F_] rfl rfl z1_ (fun _ _ _ h => h) (Or.inl ⟨rfl, z2_⟩) z3_ ?_; refine pure_ (i := 8) (N := some 24) #[T_,T_,T_,T_,T_,T_,T_,F_,T_,F_,F_,F_,F_,F_,F_] rfl rfl z1_ (fun _ _ _ h => h) (Or.inl ⟨rfl, z2_⟩) z3_ ?_; refine pure_ (i := 9) (N := some 25) #[T_,T_,T_,T_,T_,T_,T_,F_,T_,T_,F_,F_,F_,F_,F_] rfl rfl z1_ (fun _ _ _ h => h) (Or.inl ⟨rfl, z2_⟩) z3_ ?_; refine pure_ (i := 10) (N := some 26) #[T_,T_,T_,T_,T_,T_,T_,F_,T_,T_,T_,F_,F_,F_,F_] rfl rfl z1_ (fun _ _ _ h => h) (Or.inl ⟨rfl, z2_⟩) z3_ ?_; refine pure_ (i := 11) (N := some 27) #[T_,T_,T_,T_,T_,T_,T_,F_,T_,T_,T_,T_,F_,F_,F_] rfl rfl z1_ (fun _ _ _ h => h) (Or.inl ⟨rfl, z2_⟩) z3_ ?_; refine take_ (i := 7) (N := some 23) #[T_,T_,T_,T_,T_,T_,T_,T_,T_,T_,T_,T_,F_,F_,F_] rfl rfl z4_ (fun _ _ _ h => h) (Or.inl ⟨rfl, z8_⟩) hHeld z3_ ?_; refine take_ (i := 12) (N := some 28) #[T_,T_,T_,T_,T_,T_,T_,T_,T_,T_,T_,T_,T_,F_,F_] rfl rfl z4_ (fun _ _ _ h => h) (Or.inl ⟨rfl, z8_⟩) hHeld z3_ ?_; refine one_ (i := 13) (N := some 29) #[T_,T_,T_,T_,T_,T_,T_,T_,T_,T_,T_,T_,T_,T_,F_] rfl rfl (one_of HT_.out y50_) y42_ (fun K hK => ?_); refine goes_ Try.func96 y50_ rfl #[.int .i64 (rd x0_2 x7_2), .int .i64 (rd x0_2 (ji8))] (by rfl) rfl rfl (by (try simp only [List.map_toArray, List.map_cons, List.map_nil]); first | done | (simp only [hji8]; rfl) | rfl | (simp only [List.length_drop, List.length_take]; rfl)) ?_; with_reducible refine (cmp_Less_int64.calls (rd x0_2 x7_2) (rd x0_2 (ji8)) _ _ Ax6.out).mono ?_
         rintro e w' ⟨rfl, ⟨nd, rfl⟩⟩; refine ⟨_, rfl, ?_⟩; refine hK.out _ _ ⟨hHeld.1, hHeld.2⟩ (fun hHeld => ?_); clear hK K; refine norm_ z28_ ?_; refine pure_ (i := 14) (N := some 30) #[T_,T_,T_,T_,T_,T_,T_,T_,T_,T_,T_,T_,T_,T_,T_] rfl rfl z1_ (fun _ _ _ h => h) (Or.inl ⟨rfl, z2_⟩) z3_ ?_; refine done_ (done_of HT_.out y50_) ?_; try go_wp2)
       first
       | fail_if_success clear m1_3
       |(clear m1_3; (try (rw [drewN_self w9497698]; generalize hq_ : World.drewN w9497698 _ = w9497698; have n0_ : Aside0 (Kd.R (Kd.int .i64) 2 w9497698 w0.heap.size (fun k_ => (P0_ k_ ∨ w.heap.size ≤ k_)) (.slice (some ad9922068) x0_2.length co9997294) x0_2) := ⟨by rw [← hq_]; exact y51_⟩; have n1_ : Aside0 (Kept w w9497698 (fun k_ => P0_ k_)) := ⟨by rw [← hq_]; exact y11_⟩; have n2_ : Aside0 (Below w0.heap.size w0 w9497698) := ⟨by rw [← hq_]; exact y0_⟩; clear HO_0 HK HB hq_; have HO_0 := n0_; have HK := n1_; have HB := n2_; clear n0_ n1_ n2_)); have n0_ := a_ (Kd.R_drew HO_0.out); have n1_ := a_ (Kept.drew HK.out); have n2_ := a_ (below_drew1 HB.out); clear HO_0; clear HK; clear HB; have HO_0 := n0_; have HK := n1_; have HB := n2_; clear n0_ n1_ n2_; have p9058667 : 0 ≤ ((ji8) : Int) := of_decide_eq_true y1_; have q9058667 : (ji8) < (x0_2.length : Int) := of_decide_eq_true y1_; obtain ⟨ad9058667, e9058667, hx9058667_0⟩ := Kd.at_int (Kd.R_reads' HO_0.out).2.2 (ji8) p9058667 q9058667; obtain rfl : ad9922068 = ad9058667 := (by injection e9058667); replace p9058667 := eq_true p9058667; replace q9058667 := eq_true q9058667; have p9450402 : 0 ≤ (x7_2 : Int) := of_decide_eq_true y1_; have q9450402 : x7_2 < (x0_2.length : Int) := of_decide_eq_true y1_; obtain ⟨ad9450402, e9450402, hx9450402_0⟩ := Kd.at_int (Kd.R_reads' HO_0.out).2.2 x7_2 p9450402 q9450402; obtain rfl : ad9922068 = ad9450402 := (by injection e9450402); replace p9450402 := eq_true p9450402; replace q9450402 := eq_true q9450402; have p9512952 : 0 ≤ (x7_2 : Int) := of_decide_eq_true y1_; have q9512952 : (x7_2 : Int) < ((x0_2.length : Int) : Int) := of_decide_eq_true y1_; obtain ⟨go9512952, co9512952, eo9512952, gb9512952, gl13, cl13, HG13⟩ := Kd.R_form HO_0.out y130_; (first | cases eo9512952 | (injection eo9512952 with ea_ en_ ec_; (first | subst ea_ | (injection ea_ with ea_; subst ea_)); subst ec_; clear en_)); have GB13 := a_ gb9512952; have GG13 := a_ HG13; clear gb9512952 gl13 HG13; have HMgo13 := a_ (show (P0_ go9512952 ∨ w.heap.size ≤ go9512952) from (HO_0.out.1 _ rfl)); (first | simp only [add_plain] at hx9922068_0 | skip); (first | simp only [add_plain] at hx9548309_0 | skip); (first | simp only [add_plain] at hx9058667_0 | skip)
         (first | simp only [add_plain] at hx9450402_0 | skip); obtain ⟨hx9512952_0, hf9512952_0⟩ := Kd.R_celln 0 HO_0.out (x7_2 : Int) p9512952 q9512952; replace p9512952 := eq_true p9512952; replace q9512952 := eq_true q9512952; have HP18 := Kd.R_putn HO_0.out (x7_2 : Int) (rd x0_2 (ji8)); rw [← Ny250.out] at HP18; have HQ18 := a_ HP18; clear HP18; have p9120341 : 0 ≤ ((ji8) : Int) := of_decide_eq_true y1_; have q9120341 : ((ji8) : Int) < ((x0_2.length : Int) : Int) := of_decide_eq_true y1_; obtain ⟨hx9120341_0, hf9120341_0⟩ := Kd.R_celln 0 HQ18.out ((ji8) : Int) p9120341 q9120341; replace p9120341 := eq_true p9120341; replace q9120341 := eq_true q9120341; have HP19 := Kd.R_putn HQ18.out ((ji8) : Int) (rd x0_2 x7_2); rw [← Ny251.out] at HP19; have HQ19 := a_ HP19; clear HP19; refine start_ (n := 18) (S := fun w' => w'.cell? ⟨go9512952, ((ji8)).toNat, none⟩ = some (.int .i64 (rd x0_2 (ji8))) ∧ w'.cell? ⟨go9512952, (x7_2).toNat, none⟩ = some (.int .i64 (rd x0_2 x7_2))) (ds := [15, 17]) #[F_,F_,F_,F_,F_,F_,F_,F_,F_,F_,F_,F_,F_,F_,F_,F_,F_,F_] y50_ rfl rfl ⟨hx9058667_0, hx9450402_0⟩ (fun hHeld => ?_); refine with_tabW slices_insertionSortOrdered_int64.tab6 slices_insertionSortOrdered_int64.bits6 (fun HT_ HW_ => ?_); generalize w9497698.drew = w9376535 at HO_0 HK HB GG13 HQ18 HQ19 hf9512952_0 hf9120341_0 hx9512952_0 hx9120341_0 hx9922068_0 hx9548309_0 hx9058667_0 hx9450402_0 hHeld ⊢; refine pure_ (i := 0) (N := some 33) #[T_,F_,F_,F_,F_,F_,F_,F_,F_,F_,F_,F_,F_,F_,F_,F_,F_,F_] rfl rfl z1_ (fun _ _ _ h => h) (Or.inl ⟨rfl, z2_⟩) z3_ ?_; refine pure_ (i := 1) (N := some 34) #[T_,T_,F_,F_,F_,F_,F_,F_,F_,F_,F_,F_,F_,F_,F_,F_,F_,F_] rfl rfl z1_ (fun _ _ _ h => h) (Or.inl ⟨rfl, z2_⟩) z3_ ?_; refine pure_ (i := 2) (N := some 35) #[T_,T_,T_,F_,F_,F_,F_,F_,F_,F_,F_,F_,F_,F_,F_,F_,F_,F_] rfl rfl z1_ (fun _ _ _ h => h) (Or.inl ⟨rfl, z2_⟩) z3_ ?_; refine pure_ (i := 3) (N := some 36) #[T_,T_,T_,T_,F_,F_,F_,F_,F_,F_,F_,F_,F_,F_,F_,F_,F_,F_] rfl rfl z1_ (fun _ _ _ h => h) (Or.inl ⟨rfl, z2_⟩) z3_ ?_; refine pure_ (i := 4) (N := some 37) #[T_,T_,T_,T_,T_,F_,F_,F_,F_,F_,F_,F_,F_,F_,F_,F_,F_,F_] rfl rfl z1_ (fun _ _ _ h => h) (Or.inl ⟨rfl, z2_⟩) z3_ ?_; refine pure_ (i := 5) (N := some 38) #[T_,T_,T_,T_,T_,T_,F_,F_,F_,F_,F_,F_,F_,F_,F_,F_,F_,F_] rfl rfl z1_ (fun _ _ _ h => h) (Or.inl ⟨rfl, z2_⟩) z3_ ?_
         refine pure_ (i := 6) (N := some 39) #[T_,T_,T_,T_,T_,T_,T_,F_,F_,F_,F_,F_,F_,F_,F_,F_,F_,F_] rfl rfl z1_ (fun _ _ _ h => h) (Or.inl ⟨rfl, z2_⟩) z3_ ?_; refine pure_ (i := 7) (N := some 40) #[T_,T_,T_,T_,T_,T_,T_,T_,F_,F_,F_,F_,F_,F_,F_,F_,F_,F_] rfl rfl z1_ (fun _ _ _ h => h) (Or.inl ⟨rfl, z2_⟩) z3_ ?_; refine pure_ (i := 8) (N := some 41) #[T_,T_,T_,T_,T_,T_,T_,T_,T_,F_,F_,F_,F_,F_,F_,F_,F_,F_] rfl rfl z1_ (fun _ _ _ h => h) (Or.inl ⟨rfl, z2_⟩) z3_ ?_; refine pure_ (i := 10) (N := some 43) #[T_,T_,T_,T_,T_,T_,T_,T_,T_,F_,T_,F_,F_,F_,F_,F_,F_,F_] rfl rfl z1_ (fun _ _ _ h => h) (Or.inl ⟨rfl, z2_⟩) z3_ ?_; refine pure_ (i := 11) (N := some 44) #[T_,T_,T_,T_,T_,T_,T_,T_,T_,F_,T_,T_,F_,F_,F_,F_,F_,F_] rfl rfl z1_ (fun _ _ _ h => h) (Or.inl ⟨rfl, z2_⟩) z3_ ?_; refine pure_ (i := 12) (N := some 45) #[T_,T_,T_,T_,T_,T_,T_,T_,T_,F_,T_,T_,T_,F_,F_,F_,F_,F_] rfl rfl z1_ (fun _ _ _ h => h) (Or.inl ⟨rfl, z2_⟩) z3_ ?_; refine take_ (i := 9) (N := some 42) #[T_,T_,T_,T_,T_,T_,T_,T_,T_,T_,T_,T_,T_,F_,F_,F_,F_,F_] rfl rfl z4_ (fun _ _ _ h => h) (Or.inl ⟨rfl, z8_⟩) hHeld z3_ ?_; refine take_ (i := 13) (N := some 46) #[T_,T_,T_,T_,T_,T_,T_,T_,T_,T_,T_,T_,T_,T_,F_,F_,F_,F_] rfl rfl z4_ (fun _ _ _ h => h) (Or.inl ⟨rfl, z8_⟩) hHeld z3_ ?_; refine pure_ (i := 14) (N := some 47) #[T_,T_,T_,T_,T_,T_,T_,T_,T_,T_,T_,T_,T_,T_,T_,F_,F_,F_] rfl rfl z1_ (fun _ _ _ h => h) (Or.inl ⟨rfl, z2_⟩) z3_ ?_; refine last_ (i := 15) (N := none) #[T_,T_,T_,T_,T_,T_,T_,T_,T_,T_,T_,T_,T_,T_,T_,T_,F_,F_] rfl rfl (one_of HT_.out y50_) y42_ (fun K hK => ?_); refine skip_ (w1 := ?_) (by rfl) rfl ?_ ?_; rotate_left
         ·go_simp
          rfl
         refine hK.out _ _ ?_; clear hK K; refine pure_ (i := 16) (N := some 48) #[T_,T_,T_,T_,T_,T_,T_,T_,T_,T_,T_,T_,T_,T_,T_,T_,T_,F_] rfl rfl z1_ (fun _ _ _ h => h) (Or.inl ⟨rfl, z2_⟩) z3_ ?_; refine last_ (i := 17) (N := none) #[T_,T_,T_,T_,T_,T_,T_,T_,T_,T_,T_,T_,T_,T_,T_,T_,T_,T_] rfl rfl (one_of HT_.out y50_) y42_ (fun K hK => ?_); refine skip_ (w1 := ?_) (by rfl) rfl ?_ ?_; rotate_left
         ·go_simp
          rfl
         refine hK.out _ _ ?_; clear hK K; refine done_ (done_of HT_.out y50_) ?_; try go_wp2
         go_roundg k2
         case measure => have := HK1.out; have := HK2.out; omega
         case rel => exact ⟨(y251), (ji8), (by first | rfl | (simp; done) | (simp only [← hji8] <;> (first | rfl | simp)) | (simp [*]; done)), H', ⟨by have := HK1.out; have := HK2.out; omega⟩, ⟨by (with_reducible repeat (first | apply Kd.R_alloc | apply Kd.R_drewN | apply Kd.R_drew)); exact HQ19.out⟩, ⟨by repeat (first | (with_reducible first | exact HK.out | apply Kept.alloc | apply Kept.drewN | apply Kept.drew | refine Kept.setCell ?_ HMgo13.out _ | refine Kept.setCell ?_ HMgo13.out _) | exact HK.out)⟩, ⟨by repeat (first | (with_reducible first | exact HB.out | apply below_alloc | apply pw_below_drewN | apply below_drew1 | refine below_set ?_ GB13.out | refine below_set ?_ GB13.out) | exact HB.out)⟩⟩)
       first
       | fail_if_success clear m1_4
       |(clear m1_4; go_roundg k2
         case measure => have := HK1.out; have := HK2.out; omega)
       first
       | fail_if_success clear m1_5
       |(clear m1_5; refine pure_ (i := 4) (N := some 20) (v := undef) (a' := ?_) #[T_,T_,T_,T_,T_,F_,F_,F_,F_,F_,F_,F_,F_,F_,F_] rfl rfl (any_of HT_.out y50_) (fun _ _ _ h => h) (Or.inr ⟨by rfl, rfl⟩) ?_ ?_; rotate_left
         ·simp only [Act.put, List.setIfInBounds_toArray, List.set_cons_zero, List.set_cons_succ, i64_w, i32_w]
          rfl
         refine pure_ (i := 5) (N := some 21) (v := undef) (a' := ?_) #[T_,T_,T_,T_,T_,T_,F_,F_,F_,F_,F_,F_,F_,F_,F_] rfl rfl (any_of HT_.out y50_) (fun _ _ _ h => h) (Or.inr ⟨by rfl, rfl⟩) ?_ ?_; rotate_left
         ·simp only [Act.put, List.setIfInBounds_toArray, List.set_cons_zero, List.set_cons_succ, i64_w, i32_w]
          rfl
         refine pure_ (i := 6) (N := some 22) (v := undef) (a' := ?_) #[T_,T_,T_,T_,T_,T_,T_,F_,F_,F_,F_,F_,F_,F_,F_] rfl rfl (any_of HT_.out y50_) (fun _ _ _ h => h) (Or.inr ⟨by rfl, rfl⟩) ?_ ?_; rotate_left
         ·simp only [Act.put, List.setIfInBounds_toArray, List.set_cons_zero, List.set_cons_succ, i64_w, i32_w]
          rfl
         refine pure_ (i := 7) (N := some 23) (v := undef) (a' := ?_) #[T_,T_,T_,T_,T_,T_,T_,T_,F_,F_,F_,F_,F_,F_,F_] rfl rfl (any_of HT_.out y50_) (fun _ _ _ h => h) (Or.inr ⟨by rfl, rfl⟩) ?_ ?_; rotate_left
         ·simp only [Act.put, List.setIfInBounds_toArray, List.set_cons_zero, List.set_cons_succ, i64_w, i32_w]
          rfl
         refine pure_ (i := 8) (N := some 24) (v := undef) (a' := ?_) #[T_,T_,T_,T_,T_,T_,T_,T_,T_,F_,F_,F_,F_,F_,F_] rfl rfl (any_of HT_.out y50_) (fun _ _ _ h => h) (Or.inr ⟨by rfl, rfl⟩) ?_ ?_; rotate_left
         ·simp only [Act.put, List.setIfInBounds_toArray, List.set_cons_zero, List.set_cons_succ, i64_w, i32_w]
          rfl
         refine pure_ (i := 9) (N := some 25) (v := undef) (a' := ?_) #[T_,T_,T_,T_,T_,T_,T_,T_,T_,T_,F_,F_,F_,F_,F_] rfl rfl (any_of HT_.out y50_) (fun _ _ _ h => h) (Or.inr ⟨by rfl, rfl⟩) ?_ ?_; rotate_left
         ·simp only [Act.put, List.setIfInBounds_toArray, List.set_cons_zero, List.set_cons_succ, i64_w, i32_w]
          rfl
         refine pure_ (i := 10) (N := some 26) (v := undef) (a' := ?_) #[T_,T_,T_,T_,T_,T_,T_,T_,T_,T_,T_,F_,F_,F_,F_] rfl rfl (any_of HT_.out y50_) (fun _ _ _ h => h) (Or.inr ⟨by rfl, rfl⟩) ?_ ?_; rotate_left
         ·simp only [Act.put, List.setIfInBounds_toArray, List.set_cons_zero, List.set_cons_succ, i64_w, i32_w]
          rfl
         refine pure_ (i := 11) (N := some 27) (v := undef) (a' := ?_) #[T_,T_,T_,T_,T_,T_,T_,T_,T_,T_,T_,T_,F_,F_,F_] rfl rfl (any_of HT_.out y50_) (fun _ _ _ h => h) (Or.inr ⟨by rfl, rfl⟩) ?_ ?_; rotate_left
         ·simp only [Act.put, List.setIfInBounds_toArray, List.set_cons_zero, List.set_cons_succ, i64_w, i32_w]
          rfl
         refine pure_ (i := 12) (N := some 28) (v := undef) (a' := ?_) #[T_,T_,T_,T_,T_,T_,T_,T_,T_,T_,T_,T_,T_,F_,F_] rfl rfl (any_of HT_.out y50_) (fun _ _ _ h => h) (Or.inr ⟨by rfl, rfl⟩) ?_ ?_; rotate_left
         ·simp only [Act.put, List.setIfInBounds_toArray, List.set_cons_zero, List.set_cons_succ, i64_w, i32_w]
          rfl
         refine pure_ (i := 13) (N := some 29) (v := undef) (a' := ?_) #[T_,T_,T_,T_,T_,T_,T_,T_,T_,T_,T_,T_,T_,T_,F_] rfl rfl (any_of HT_.out y50_) (fun _ _ _ h => h) (Or.inr ⟨by rfl, rfl⟩) ?_ ?_; rotate_left
         ·simp only [Act.put, List.setIfInBounds_toArray, List.set_cons_zero, List.set_cons_succ, i64_w, i32_w]
          rfl
         refine pure_ (i := 14) (N := some 30) #[T_,T_,T_,T_,T_,T_,T_,T_,T_,T_,T_,T_,T_,T_,T_] rfl rfl z1_ (fun _ _ _ h => h) (Or.inl ⟨rfl, z2_⟩) z3_ ?_; refine done_ (done_of HT_.out y50_) ?_; try go_wp2
         go_roundg k2
         case measure => have := HK1.out; have := HK2.out; omega)
       first
       | fail_if_success clear m1_6
       |(clear m1_6
         case rel => exact ⟨(x0_2), (wrap64 (x6_1 + 1)), y3_, H', ⟨by have := HK1.out; have := HK2.out; omega⟩, ⟨y51_⟩, ⟨y11_⟩, ⟨y0_⟩⟩))
   ·rw [if_neg cx0] at H; have cx0b0 : decide (x6_1 < a2) = false := decide_eq_false cx0; clear cx0; obtain rfl := Option.some.inj H; go_wp2
    first | go_end0 | ((try simp only [Exit.inBlock, Exit.then]); refine bodyPost_ret (results_none rfl _ _ _) rfl ?_)
    exact ⟨y6_, y51_, y0_, y11_⟩

/-! ### slices_pdqsortOrdered_int64: function 76 -/
mutual
def slices_pdqsortOrdered_int64.l0 : Nat → List Int → Int → Int → Int → Bool → Option (List Int)
  | 0, _, _, _, _, _ => none
  | k + 1, x0, x1, x2, x3, x8 => if (wrap64 (x2 - x1)) ≤ 12 then ((slices_insertionSortOrdered_int64.f k x0 x1 x2).bind fun t252 => (some t252)) else (if x3 = 0 then (none) else (if x8 = true then (none) else (none)))
def slices_pdqsortOrdered_int64.f : Nat → List Int → Int → Int → Int → Option (List Int)
  | 0, _, _, _, _ => none
  | k + 1, l0, a1, a2, a3 => slices_pdqsortOrdered_int64.l0 k l0 a1 a2 a3 true
end
theorem slices_pdqsortOrdered_int64.mono_l : ∀ k, (∀ y0 y1 y2 y3, LeO (slices_pdqsortOrdered_int64.f k y0 y1 y2 y3) (slices_pdqsortOrdered_int64.f (k + 1) y0 y1 y2 y3)) ∧ (∀ y0 y1 y2 y3 y4, LeO (slices_pdqsortOrdered_int64.l0 k y0 y1 y2 y3 y4) (slices_pdqsortOrdered_int64.l0 (k + 1) y0 y1 y2 y3 y4))
  | 0 => ⟨fun _ _ _ _ r h => by simp [slices_pdqsortOrdered_int64.f] at h, fun _ _ _ _ _ r h => by simp [slices_pdqsortOrdered_int64.l0] at h⟩
  | k + 1 => by
    obtain ⟨ih0, ih1⟩ := slices_pdqsortOrdered_int64.mono_l k
    refine ⟨?_, ?_⟩
    · intro y0 y1 y2 y3
      unfold slices_pdqsortOrdered_int64.f
      repeat' (with_reducible first | exact ih0 _ _ _ _ | exact ih1 _ _ _ _ _ | exact slices_insertionSortOrdered_int64.mono _ _ _ _ | exact LeO.refl _ | exact LeO.none _ | refine LeO.ite ?_ ?_ | refine LeO.bind ?_ (fun _ => ?_))
    · intro y0 y1 y2 y3 y4
      unfold slices_pdqsortOrdered_int64.l0
      repeat' (with_reducible first | exact ih0 _ _ _ _ | exact ih1 _ _ _ _ _ | exact slices_insertionSortOrdered_int64.mono _ _ _ _ | exact LeO.refl _ | exact LeO.none _ | refine LeO.ite ?_ ?_ | refine LeO.bind ?_ (fun _ => ?_))
theorem slices_pdqsortOrdered_int64.mono : ∀ a0 a1 a2 a3 k, LeO (slices_pdqsortOrdered_int64.f k a0 a1 a2 a3) (slices_pdqsortOrdered_int64.f (k + 1) a0 a1 a2 a3) := by
  intro a0 a1 a2 a3 k
  obtain ⟨ih0, ih1⟩ := slices_pdqsortOrdered_int64.mono_l k
  exact ih0 a0 a1 a2 a3
set_option maxHeartbeats 8000000 in
set_option maxRecDepth 100000 in
theorem slices_pdqsortOrdered_int64.calls (k : Nat) : ∀ (P0_ : Nat → Prop) (u9000_ : Value) (l0 : List Int) (a1 : Int) (a2 : Int) (a3 : Int) (r : List Int) (w0 w : World) (hB : Below w0.heap.size w0 w) (ho0 : Kd.R (Kd.int .i64) 2 w w0.heap.size P0_ u9000_ l0) (h : slices_pdqsortOrdered_int64.f k l0 a1 a2 a3 = some r),
    Calls Try.prog 76 #[u9000_, .int .i64 a1, .int .i64 a2, .int .i64 a3] w fun e w' => e = .returned (.tuple #[]) ∧ Kd.R (Kd.int .i64) 2 w' w0.heap.size (fun k_ => (P0_ k_ ∨ w.heap.size ≤ k_)) u9000_ r ∧ Below w0.heap.size w0 w' ∧ Kept w w' (fun k_ => P0_ k_) := by
 induction k using Nat.strongRecOn with
 | _ k ih =>
 intro P0_ u9000_ l0 a1 a2 a3 r w0 w hB ho0 h; cases k with
 | zero => exact absurd h (by simp [slices_pdqsortOrdered_int64.f])
 | succ k =>
 simp only [slices_pdqsortOrdered_int64.f] at h; have HO0 := a_ (show Kd.R (Kd.int .i64) 2 w w0.heap.size (fun k_ => (P0_ k_ ∨ w.heap.size ≤ k_)) u9000_ l0 from Kd.R_mono ho0 (fun k_ hk => (.inl hk))); have HK := a_ (Kept.refl w (fun k_ => P0_ k_)); have HW0 := a_ hB.size; have HB := a_ hB; clear hB; have H : (slices_pdqsortOrdered_int64.l0 k l0 a1 a2 a3 true) = some r := h; clear h; have H' := a_ H; clear H; go_enter Try.func76, Try.ntmps76
 go_wp2
 repeat (go_quiet (fail); try go_wp2)
 go_loopg [1, 2, 3, 8] k (fun kq v1 v2 v3 v8 w' => ∃ (x0_1 : List Int) (x1_1 : Int) (x2_1 : Int) (x3_1 : Int) (x8_1 : Bool), v1 = .int .i64 x1_1 ∧ v2 = .int .i64 x2_1 ∧ v3 = .int .i64 x3_1 ∧ v8 = .bool x8_1 ∧ Aside0 (slices_pdqsortOrdered_int64.l0 kq x0_1 x1_1 x2_1 x3_1 x8_1 = some r) ∧ Aside0 (kq ≤ k) ∧ Aside0 (Kd.R (Kd.int .i64) 2 w' w0.heap.size (fun k_ => (P0_ k_ ∨ w.heap.size ≤ k_)) u9000_ x0_1) ∧ Aside0 (Kept w w' (fun k_ => P0_ k_)) ∧ Aside0 (Below w0.heap.size w0 w'))
 case atStart => exact ⟨(l0), (a1), (a2), (a3), (true), y3_, y3_, y3_, y3_, H', ⟨Nat.le_refl _⟩, ⟨y101_⟩, ⟨y11_⟩, ⟨y0_⟩⟩
 case round =>
  clear H'; obtain ⟨x0_1, x1_1, x2_1, x3_1, x8_1, rfl, rfl, rfl, rfl, HA, HK1, HO_0, HK, HB⟩ := hrel; cases gk with
  | zero => exact absurd HA.out (by simp [slices_pdqsortOrdered_int64.l0])
  | succ k1 =>
   have H := HA.out; clear HA; simp only [slices_pdqsortOrdered_int64.l0] at H; by_cases cx0 : (wrap64 (x2_1 - x1_1)) ≤ 12
   ·rw [if_pos cx0] at H; have cx0b0 : decide ((wrap64 (x2_1 - x1_1)) ≤ 12) = true := decide_eq_true cx0; clear cx0; replace H := Option.bind_eq_some_iff.mp H; obtain ⟨tx1, Ay1, H⟩ := H; have Ax1 := a_ Ay1; clear Ay1; obtain rfl := Option.some.inj H; obtain ⟨Ao7, co7, eo7⟩ := Kd.R_slice HO_0.out; subst eo7; go_wp2_with (first | (go_at_call 90; (with_reducible refine (slices_insertionSortOrdered_int64.calls k1 (fun k_ => some k_ = (.slice Ao7 x0_1.length co7 : Value).ownBlock) (.slice Ao7 x0_1.length co7) x0_1 x1_1 x2_1 tx1 w0 _ ?side1 ?side2 Ax1.out).mono ?_); (case side1 => repeat (first | (with_reducible first | exact HB.out | apply below_alloc | apply pw_below_drewN | apply below_drew1) | exact HB.out)); (case side2 => exact Kd.R_tight rfl HO_0.out); rintro e w8 ⟨rfl, hy0, hb, hkp⟩; have n0_ := a_ (Kd.R_reok rfl hy0 (fun k_ e_ => HO_0.out.1 k_ e_)); have n1_ := a_ (Kept.then_ (S := (fun k_ => P0_ k_)) y11_ hkp (fun k_ hs_ => (fun e_ => (HO_0.out.1 k_ e_.symm)) hs_)); have n2_ := a_ (hb); clear HO_0; clear HK; clear HB; have HO_0 := n0_; have HK := n1_; have HB := n2_; clear n0_ n1_ n2_; (try clear hb); (try clear hkp); (try clear hy0)) | go_quiet (fail))
    first | go_end0 | ((try simp only [Exit.inBlock, Exit.then]); refine bodyPost_ret (results_none rfl _ _ _) rfl ?_)
    exact ⟨y6_, y51_, y0_, y11_⟩
   ·rw [if_neg cx0] at H; have cx0b0 : decide ((wrap64 (x2_1 - x1_1)) ≤ 12) = false := decide_eq_false cx0; clear cx0; by_cases cx1 : x3_1 = 0
    ·rw [if_pos cx1] at H; exact absurd H y79_
    ·rw [if_neg cx1] at H; have cx1b0 : (x3_1 == 0) = false := beq_eq_false_iff_ne.mpr cx1; have cx1b1 : (x3_1 != 0) = true := bne_iff_ne.mpr cx1; by_cases cx2 : x8_1 = true
     ·subst cx2; rw [if_pos rfl] at H; exact absurd H y79_
     ·replace cx2 := Bool.eq_false_iff.mpr cx2; subst cx2; rw [if_neg (show ¬ (false = true) by decide)] at H; exact absurd H y79_

/-! ### slices_Sort_int64_int64: function 49 -/
def slices_Sort_int64_int64.f (k : Nat) (l0 : List Int) : Option (List Int) := (bits_Len.f (IntKind.u64.wrap ((l0.length : Int)))).bind fun t253 => ((slices_pdqsortOrdered_int64.f k l0 0 (l0.length : Int) t253).bind fun t254 => (some t254))
theorem slices_Sort_int64_int64.mono : ∀ a0 k, LeO (slices_Sort_int64_int64.f k a0) (slices_Sort_int64_int64.f (k + 1) a0) := by
  intro a0 k
  unfold slices_Sort_int64_int64.f
  repeat' (with_reducible first | exact slices_pdqsortOrdered_int64.mono _ _ _ _ _ | exact LeO.refl _ | exact LeO.none _ | refine LeO.ite ?_ ?_ | refine LeO.bind ?_ (fun _ => ?_))
set_option maxHeartbeats 8000000 in
set_option maxRecDepth 100000 in
theorem slices_Sort_int64_int64.calls (k : Nat) (P0_ : Nat → Prop) (u9000_ : Value) (l0 : List Int) (r : List Int) (w0 w : World) (hB : Below w0.heap.size w0 w) (ho0 : Kd.R (Kd.int .i64) 2 w w0.heap.size P0_ u9000_ l0) (h : slices_Sort_int64_int64.f k l0 = some r) :
    Calls Try.prog 49 #[u9000_] w fun e w' => e = .returned (.tuple #[]) ∧ Kd.R (Kd.int .i64) 2 w' w0.heap.size (fun k_ => (P0_ k_ ∨ w.heap.size ≤ k_)) u9000_ r ∧ Below w0.heap.size w0 w' ∧ Kept w w' (fun k_ => P0_ k_) := by
 have HO0 := a_ (show Kd.R (Kd.int .i64) 2 w w0.heap.size (fun k_ => (P0_ k_ ∨ w.heap.size ≤ k_)) u9000_ l0 from Kd.R_mono ho0 (fun k_ hk => (.inl hk))); have HK := a_ (Kept.refl w (fun k_ => P0_ k_)); have HW0 := a_ hB.size; have HB := a_ hB; clear hB; have H : ((bits_Len.f (IntKind.u64.wrap ((l0.length : Int)))).bind fun t253 => ((slices_pdqsortOrdered_int64.f k l0 0 (l0.length : Int) t253).bind fun t254 => (some t254))) = some r := h; clear h; replace H := Option.bind_eq_some_iff.mp H; obtain ⟨t253, A20, H⟩ := H; have A2 := a_ A20; clear A20; replace H := Option.bind_eq_some_iff.mp H; obtain ⟨t254, A30, H⟩ := H; have A3 := a_ A30; clear A30; obtain rfl := Option.some.inj H; obtain ⟨Ao4, co4, eo4⟩ := Kd.R_slice HO0.out; subst eo4; go_enter Try.func49, Try.ntmps49
 go_wp2_with (first | ((with_reducible refine gate_callee (f := 77) rfl ?_); refine gc_ 77 9 Try.func77 #[.int .u64 (IntKind.u64.wrap ((l0.length : Int)))] ?_; (with_reducible refine (bits_Len.calls (IntKind.u64.wrap ((l0.length : Int))) t253 _ A2.out).mono ?_); rintro e w' ⟨rfl, ⟨nd, rfl⟩⟩; refine ⟨_, rfl, ?_⟩) | ((with_reducible refine gate_callee (f := 76) rfl ?_); refine gc_ 76 10 Try.func76 #[.slice Ao4 l0.length co4, .int .i64 0, .int .i64 (l0.length : Int), .int .i64 t253] ?_; (with_reducible refine (slices_pdqsortOrdered_int64.calls k (fun k_ => some k_ = (.slice Ao4 l0.length co4 : Value).ownBlock) (.slice Ao4 l0.length co4) l0 0 (l0.length : Int) t253 t254 w0 _ ?side1 ?side2 A3.out).mono ?_); (case side1 => repeat (first | (with_reducible first | exact HB.out | apply below_alloc | apply pw_below_drewN | apply below_drew1) | exact HB.out)); (case side2 => exact Kd.R_tight rfl HO0.out); rintro e w5 ⟨rfl, hy0, hb, hkp⟩; refine ⟨_, rfl, ?_⟩; have n0_ := a_ (Kd.R_reok rfl hy0 (fun k_ e_ => HO0.out.1 k_ e_)); have n1_ := a_ (Kept.then_ (S := (fun k_ => P0_ k_)) y11_ hkp (fun k_ hs_ => (fun e_ => (HO0.out.1 k_ e_.symm)) hs_)); have n2_ := a_ (hb); clear HO0; clear HK; clear HB; have HO0 := n0_; have HK := n1_; have HB := n2_; clear n0_ n1_ n2_; (try clear hb); (try clear hkp); (try clear hy0)))
 first | go_end0 | ((try simp only [Exit.inBlock, Exit.then]); refine bodyPost_ret (results_none rfl _ _ _) rfl ?_)
 exact ⟨y6_, y101_, y0_, y11_⟩

/-! ### impl_VarsIn: function 20 -/
def impl_VarsIn.l0 : Nat → List Int → List (S70) → Int → Int → Option (Int × List Int)
  | 0, _, _, _, _ => none
  | k + 1, x4, x14, x15, x16 => if x16 < x15 then (if 0 ≤ x16 then (if x16 < (x14.length : Int) then (if ((rd_T70 x14 x16).f0) = 2 then (if x4.length < 17592186044416 then (impl_VarsIn.l0 k (x4 ++ [(rd_T70 x14 x16).f1]) x14 x15 (wrap64 (x16 + 1))) else (none)) else (impl_VarsIn.l0 k x4 x14 x15 (wrap64 (x16 + 1)))) else (none)) else (none)) else ((slices_Sort_int64_int64.f k x4).bind fun t265 => ((slices_Compact_int64_int64.f t265).bind fun t266 => (some (0, t266))))
def impl_VarsIn.f (k : Nat) (l0 : List (S70)) : Option (Int × List Int) := (impl_ExprFault.f k l0).bind fun t256 => (if t256 = 0 then (impl_VarsIn.l0 k (([] : List Int)) l0 (l0.length : Int) 0) else (some (t256, ([] : List Int))))
theorem impl_VarsIn.mono_l : ∀ k, (∀ y0 y1 y2 y3, LeO (impl_VarsIn.l0 k y0 y1 y2 y3) (impl_VarsIn.l0 (k + 1) y0 y1 y2 y3))
  | 0 => fun _ _ _ _ r h => by simp [impl_VarsIn.l0] at h
  | k + 1 => by
    have ih0 := impl_VarsIn.mono_l k
    · intro y0 y1 y2 y3
      unfold impl_VarsIn.l0
      repeat' (with_reducible first | exact ih0 _ _ _ _ | exact impl_ExprFault.mono _ _ | exact slices_Sort_int64_int64.mono _ _ | exact LeO.refl _ | exact LeO.none _ | refine LeO.ite ?_ ?_ | refine LeO.bind ?_ (fun _ => ?_))
theorem impl_VarsIn.mono : ∀ a0 k, LeO (impl_VarsIn.f k a0) (impl_VarsIn.f (k + 1) a0) := by
  intro a0 k
  have ih0 := impl_VarsIn.mono_l k
  unfold impl_VarsIn.f
  repeat' (with_reducible first | exact ih0 _ _ _ _ | exact impl_ExprFault.mono _ _ | exact slices_Sort_int64_int64.mono _ _ | exact LeO.refl _ | exact LeO.none _ | refine LeO.ite ?_ ?_ | refine LeO.bind ?_ (fun _ => ?_))
set_option maxHeartbeats 8000000 in
set_option maxRecDepth 100000 in
theorem impl_VarsIn.calls (k : Nat) (A0 : Option Addr) (c0 : Nat) (l0 : List (S70)) (r1 : Int) (r2 : List Int) (w : World) (hr0 : Kd.C k70 w A0 l0.length l0) (hc0 : l0.length ≤ c0) (h : impl_VarsIn.f k l0 = some (r1, r2)) :
    Calls Try.prog 20 #[.slice A0 l0.length c0] w fun e w' => ∃ v1_ : Value, e = .returned (.agg #[.int .i64 r1, v1_]) ∧ Kd.R (Kd.int .i64) 2 w' w.heap.size (fun _ => True) v1_ r2 ∧ Below w.heap.size w w' := by
 have hu37 := Try.underlying37; have hu70 := Try.underlying70; have HR0 := a_ hr0; have HC0 := a_ hc0; clear hr0 hc0; have HB := a_ (Below.refl w.heap.size w); have H : ((impl_ExprFault.f k l0).bind fun t256 => (if t256 = 0 then (impl_VarsIn.l0 k (([] : List Int)) l0 (l0.length : Int) 0) else (some (t256, ([] : List Int))))) = some (r1, r2) := h; clear h; replace H := Option.bind_eq_some_iff.mp H; obtain ⟨tx0, Ay0, H⟩ := H; have Ax0 := a_ Ay0; clear Ay0; by_cases cx1 : tx0 = 0; rw [if_pos cx1] at H; have cx1b0 : (tx0 == 0) = true := beq_iff_eq.mpr cx1; have cx1b1 : (tx0 != 0) = false := bne_eq_false_iff_eq.mpr cx1; clear cx1; obtain ⟨y257, hy_⟩ : ∃ y_ : List Int, y_ = (([] : List Int)) := ⟨_, rfl⟩; replace H : (impl_VarsIn.l0 k y257 l0 (l0.length : Int) 0) = some (r1, r2) := z0_; have Ny257 := a_ hy_; clear hy_; have H' := a_ H; clear H; have m0_0 := t_; have m0_2 := t_; rotate_left; rw [if_neg cx1] at H; have cx1b0 : (tx0 == 0) = false := beq_eq_false_iff_ne.mpr cx1; have cx1b1 : (tx0 != 0) = true := bne_iff_ne.mpr cx1; simp only [Option.some.injEq, Prod.mk.injEq] at H; obtain ⟨rfl, rfl⟩ := H; have m0_1 := t_; have m0_3 := t_; rotate_left
 all_goals (
  go_enter Try.func20, Try.ntmps20
  go_wp2_with (first | ((with_reducible refine gate_dst (N := 2) rfl ?_); refine box_event zr_ (N := 2) zr_ (cs := #[.int .i64 0, .slice none 0 0]) (t := 37) zs_ ?_; intro gb9297855 hg w9976056 hbox hb; have n0_ := a_ (below_step y0_ hb); have n1_ := a_ (hbox); have n2_ := a_ ((by rw [hg]; exact (below_size y0_) : w.heap.size ≤ gb9297855)); have n3_ := a_ ((by rw [hg]; exact (below_size y0_) : w.heap.size ≤ gb9297855)); clear HB; have HB := n0_; have BK9297855 := n1_; have GW9297855 := n2_; have GE9297855 := n3_; clear n0_ n1_ n2_ n3_; clear hb hbox hg) | (have mkq_ := m0_0; clear mkq_; (with_reducible refine gate_callee (f := 48) rfl ?_); refine gc_ 48 8 Try.func48 #[.slice A0 l0.length c0] ?_; (with_reducible refine (impl_ExprFault.calls k _ _ l0 tx0 _ ?side1 ?side2 Ax0.out).mono ?_); (case side1 => repeat (first | exact (Kd.C_below HR0.out HB.out) | (with_reducible refine Kd.C_alloc ?_ _) | (with_reducible refine Kd.C_drewN ?_ _) | (with_reducible refine Kd.C_drew ?_))); (case side2 => exact HC0.out); rintro e w9798001 ⟨rfl, hb⟩; refine ⟨_, rfl, ?_⟩; have n0_ := a_ (blk_below (g := gb9297855) (o := .cells #[.int .i64 0, .slice none 0 0] 37 (0, 0)) y59_ hb); have n1_ := a_ (below_step y43_ hb); clear BK9297855; clear HB; have BK9297855 := n0_; have HB := n1_; clear n0_ n1_; (try clear hb); (try clear hb9034084); (try clear hk); (try clear hi)) | ((with_reducible refine gate_dst (N := 13) rfl ?_); refine Kd.R_lit (Kd.int .i64) _ 2 ?hg (N := 13) ?hd (xs := ([] : List Int)) (inner := []) (ok := fun _ => True) (okp := fun _ => True) ?hr ?hp (fun _ hk => hk) trivial (Below.refl _ _) (Nat.le_refl _) y79_ ?_; (case hd => rfl); (case hg => rfl); (case hr => first | (go_simp; done) | (go_simp; rfl)); (case hp => exact (Reps.none _ _)); intro v9510949 w9313429 ho7 hb hg_ hnew_; clear hg_ hnew_; (first | rw [← Ny257.out] at ho7 | (simp only [Int.reduceToNat] at ho7; rw [← Ny257.out] at ho7)); have n0_ := a_ (Kd.R_lower ho7 (below_size y43_)); have n1_ := a_ (blk_below (g := gb9297855) (o := .cells #[.int .i64 0, .slice none 0 0] 37 (0, 0)) y59_ hb); have n2_ := a_ (below_step y43_ hb); clear BK9297855; clear HB; have HO9338793 := n0_; have BK9297855 := n1_; have HB := n2_; clear n0_ n1_ n2_; clear hb ho7) | (have mkq_ := m0_1; clear mkq_; (with_reducible refine gate_callee (f := 48) rfl ?_); refine gc_ 48 8 Try.func48 #[.slice A0 l0.length c0] ?_; (with_reducible refine (impl_ExprFault.calls k _ _ l0 tx0 _ ?side1 ?side2 Ax0.out).mono ?_); (case side1 => repeat (first | exact (Kd.C_below HR0.out HB.out) | (with_reducible refine Kd.C_alloc ?_ _) | (with_reducible refine Kd.C_drewN ?_ _) | (with_reducible refine Kd.C_drew ?_))); (case side2 => exact HC0.out); rintro e w9798001 ⟨rfl, hb⟩; refine ⟨_, rfl, ?_⟩; have n0_ := a_ (blk_below (g := gb9297855) (o := .cells #[.int .i64 0, .slice none 0 0] 37 (0, 0)) y59_ hb); have n1_ := a_ (below_step y43_ hb); clear BK9297855; clear HB; have BK9297855 := n0_; have HB := n1_; clear n0_ n1_; (try clear hb); (try clear hb9034084); (try clear hk); (try clear hi); have hcz9820787_0 : w9798001.cell? ⟨gb9297855, 0, none⟩ = some (.int .i64 0) := (blk_cell BK9297855.out 0).trans rfl; have hcz9820787_1 : w9798001.cell? ⟨gb9297855, 1, none⟩ = some (.slice none 0 0) := (blk_cell BK9297855.out 1).trans rfl; have hfz9820787_0 := blk_frozen BK9297855.out 0; have hfz9820787_1 := blk_frozen BK9297855.out 1))
  first
  | fail_if_success clear m0_2
  |(clear m0_2; go_loopg [4, 16] k (fun kq v9976056 v9515701 w' => ∃ (x4_1 : List Int) (x16_1 : Int), v9515701 = .int .i64 x16_1 ∧ Aside0 (impl_VarsIn.l0 kq x4_1 l0 (l0.length : Int) x16_1 = some (r1, r2)) ∧ Aside0 (kq ≤ k) ∧ Aside0 (Kd.R (Kd.int .i64) 2 w' w.heap.size (fun _ => True) v9976056 x4_1) ∧ Aside0 (w'.heap[gb9297855]? = some (.cells #[.int .i64 0, (.slice none 0 0)] 37 (0, 0))) ∧ Aside0 (Below w.heap.size w w'))
    case atStart => exact ⟨(y257), (0), y3_, H', ⟨Nat.le_refl _⟩, ⟨by (with_reducible repeat (first | apply Kd.R_alloc | apply Kd.R_drewN | apply Kd.R_drew)); exact HO9338793.out⟩, ⟨y59_⟩, ⟨y43_⟩⟩
    case round =>
     clear H'; (try clear cx1); (try clear cx1b0); (try clear cx1b1); obtain ⟨x4_1, x16_1, rfl, HA, HK9889537, HO_4, BK9297855, HB⟩ := hrel; cases gk with
     | zero => exact absurd HA.out (by simp [impl_VarsIn.l0])
     | succ k1 =>
      have H := HA.out; clear HA; simp only [impl_VarsIn.l0] at H; by_cases cx2 : x16_1 < (l0.length : Int); rw [if_pos cx2] at H; have cx2b0 : decide (x16_1 < (l0.length : Int)) = true := decide_eq_true cx2; clear cx2; by_cases cx3 : 0 ≤ x16_1; rw [if_pos cx3] at H; have cx3b0 : decide (0 ≤ x16_1) = true := decide_eq_true cx3; clear cx3; by_cases cx4 : x16_1 < (l0.length : Int); rw [if_pos cx4] at H; have cx4b0 : decide (x16_1 < (l0.length : Int)) = true := decide_eq_true cx4; clear cx4; by_cases cx5 : ((rd_T70 l0 x16_1).f0) = 2; rw [if_pos cx5] at H; have cx5b0 : (((rd_T70 l0 x16_1).f0) == 2) = true := beq_iff_eq.mpr cx5; have cx5b1 : (((rd_T70 l0 x16_1).f0) != 2) = false := bne_eq_false_iff_eq.mpr cx5; clear cx5; by_cases cx6 : x4_1.length < 17592186044416; rw [if_pos cx6] at H; have LMcx6 := a_ cx6; clear cx6; obtain ⟨y9595925, hy_⟩ : ∃ y_ : List Int, y_ = (x4_1 ++ [(rd_T70 l0 x16_1).f1]) := ⟨_, rfl⟩; replace H : (impl_VarsIn.l0 k1 y9595925 l0 (l0.length : Int) (wrap64 (x16_1 + 1))) = some (r1, r2) := z0_; have Ny9595925 := a_ hy_; clear hy_; have H' := a_ H; clear H; have m1_0 := t_; have m1_1 := t_; have m1_2 := t_; rotate_left
      ·rw [if_neg cx6] at H; exact absurd H y79_
      rw [if_neg cx5] at H; have cx5b0 : (((rd_T70 l0 x16_1).f0) == 2) = false := beq_eq_false_iff_ne.mpr cx5; have cx5b1 : (((rd_T70 l0 x16_1).f0) != 2) = true := bne_iff_ne.mpr cx5; have H' := a_ H; clear H; have m1_0 := t_; have m1_1 := t_; have m1_3 := t_; rotate_left
      ·rw [if_neg cx4] at H; exact absurd H y79_
      ·rw [if_neg cx3] at H; exact absurd H y79_
      rw [if_neg cx2] at H; have cx2b0 : decide (x16_1 < (l0.length : Int)) = false := decide_eq_false cx2; clear cx2; replace H := Option.bind_eq_some_iff.mp H; obtain ⟨tx3, Ay3, H⟩ := H; have Ay0 := a_ Ay3; clear Ay3; replace H := Option.bind_eq_some_iff.mp H; obtain ⟨tx4, Ay4, H⟩ := H; have Ax4 := a_ Ay4; clear Ay4; simp only [Option.some.injEq, Prod.mk.injEq] at H; obtain ⟨rfl, rfl⟩ := H; obtain ⟨Ao9997294, co9997294, eo9997294⟩ := Kd.R_slice HO_4.out; subst eo9997294; have m1_4 := t_; rotate_left
      all_goals (
       first
       | fail_if_success clear m1_0
       |(clear m1_0; have p9922068 : 0 ≤ (x16_1 : Int) := of_decide_eq_true y1_; have q9922068 : x16_1 < (l0.length : Int) := of_decide_eq_true y1_; obtain ⟨ad9922068, e9922068, hx9922068_0, hx9922068_1, hx9922068_2, hx9922068_3⟩ := at_T70 HR0.out x16_1 p9922068 q9922068; cases e9922068; replace hx9922068_0 := cT_ HB.out hx9922068_0; replace hx9922068_1 := cT_ HB.out hx9922068_1; replace hx9922068_2 := cT_ HB.out hx9922068_2; replace hx9922068_3 := cT_ HB.out hx9922068_3; replace p9922068 := eq_true p9922068; replace q9922068 := eq_true q9922068)
       go_wp2_with (first | ((with_reducible refine gate_dst (N := 6) rfl ?_); refine box_event zr_ (N := 6) zr_ (cs := #[.int .i64 0, .int .i64 0, .int .i64 0, .int .i64 0]) (t := 70) zs_ ?_; intro gb9282676 hg w9016523 hbox hb; have n0_ := a_ (Kd.R_below y48_ hb); have n1_ := a_ (blk_below (g := gb9297855) (o := .cells #[.int .i64 0, .slice none 0 0] 37 (0, 0)) y59_ hb); have n2_ := a_ (below_step y43_ hb); have n3_ := a_ (hbox); have n4_ := a_ ((by rw [hg]; exact (below_size y43_) : w.heap.size ≤ gb9282676)); have n5_ := a_ ((by rw [hg]; exact (below_size y43_) : w.heap.size ≤ gb9282676)); have n6_ := a_ ((by rw [hg]; exact Nat.ne_of_lt (blk_lt (g := gb9297855) (o := .cells #[.int .i64 0, .slice none 0 0] 37 (0, 0)) y59_) : gb9297855 ≠ gb9282676)); have n7_ := a_ ((by rw [hg]; exact Nat.ne_of_gt (blk_lt (g := gb9297855) (o := .cells #[.int .i64 0, .slice none 0 0] 37 (0, 0)) y59_) : gb9282676 ≠ gb9297855)); clear HO_4; clear BK9297855; clear HB; have HO_4 := n0_; have BK9297855 := n1_; have HB := n2_; have BK9282676 := n3_; have GW9282676 := n4_; have GE9282676 := n5_; have NB255_261 := n6_; have NB261_255 := n7_; clear n0_ n1_ n2_ n3_ n4_ n5_ n6_ n7_; clear hb hbox hg; have hnb9913264 := NB261_255.out; have hnc9913264 := NB255_261.out; have hcz9076327_0 : w9016523.cell? ⟨gb9282676, 0, none⟩ = some (.int .i64 0) := (blk_cell BK9282676.out 0).trans rfl; have hcz9076327_1 : w9016523.cell? ⟨gb9282676, 1, none⟩ = some (.int .i64 0) := (blk_cell BK9282676.out 1).trans rfl; have hcz9076327_2 : w9016523.cell? ⟨gb9282676, 2, none⟩ = some (.int .i64 0) := (blk_cell BK9282676.out 2).trans rfl; have hcz9076327_3 : w9016523.cell? ⟨gb9282676, 3, none⟩ = some (.int .i64 0) := (blk_cell BK9282676.out 3).trans rfl; have hfz9076327_0 := blk_frozen BK9282676.out 0; have hfz9076327_1 := blk_frozen BK9282676.out 1; have hfz9076327_2 := blk_frozen BK9282676.out 2; have hfz9076327_3 := blk_frozen BK9282676.out 3) | ((with_reducible refine gate_builtin (b := .append) (xs := #[.tmp 23, .tmp 26]) rfl ?_); at_builtin; refine Kd.R_append (Kd.int .i64) (w0 := w) w.heap.size rfl (.tmp 23) (.tmp 26) 35 2 (.int .i64 0) 8 rfl Try.underlying35 info2 rfl y42_ y130_ u4 x4_1 ((rd_T70 l0 x16_1).f1) [.int .i64 ((rd_T70 l0 x16_1).f1)] (fun _ => True) (fun _ => False) rfl y81_ ?aP (fun _ hk => hk.elim) ?aF ?aO ?aB ?aS ?aL ?_; (case aP => exact rfl); (case aB => exact y75_); (case aF => exact (fun _ _ => trivial)); (case aO => exact y80_); (case aS => exact (below_size y75_)); (case aL => have := LMcx6.out; omega); intro v9658816 w9072095 ho hb hg hat; rw [← Ny9595925.out] at ho; have n0_ := a_ (blk_grown (g := gb9297855) (o := .cells #[.int .i64 0, .slice none 0 0] 37 (0, 0)) y74_ hg (Kd.R_ne HO_4.out BK9297855.out y42_)); have n1_ := a_ (blk_grown (g := gb9282676) (o := .cells #[.int .i64 ((rd_T70 l0 x16_1).f0), .int .i64 ((rd_T70 l0 x16_1).f1), .int .i64 ((rd_T70 l0 x16_1).f2), .int .i64 ((rd_T70 l0 x16_1).f3)] 70 (0, 0)) (by (with_reducible repeat (first | refine blk_drewN ?_ _ | refine blk_drew ?_ | refine blk_alloc ?_ _)); refine blk_put (cs := #[.int .i64 ((rd_T70 l0 x16_1).f0), .int .i64 ((rd_T70 l0 x16_1).f1), .int .i64 ((rd_T70 l0 x16_1).f2), .int .i64 0]) ?_ 3 _ rfl; (with_reducible repeat (first | refine blk_drewN ?_ _ | refine blk_drew ?_ | refine blk_alloc ?_ _)); refine blk_put (cs := #[.int .i64 ((rd_T70 l0 x16_1).f0), .int .i64 ((rd_T70 l0 x16_1).f1), .int .i64 0, .int .i64 0]) ?_ 2 _ rfl; (with_reducible repeat (first | refine blk_drewN ?_ _ | refine blk_drew ?_ | refine blk_alloc ?_ _)); refine blk_put (cs := #[.int .i64 ((rd_T70 l0 x16_1).f0), .int .i64 0, .int .i64 0, .int .i64 0]) ?_ 1 _ rfl; (with_reducible repeat (first | refine blk_drewN ?_ _ | refine blk_drew ?_ | refine blk_alloc ?_ _)); refine blk_put (cs := #[.int .i64 0, .int .i64 0, .int .i64 0, .int .i64 0]) ?_ 0 _ rfl; (with_reducible repeat (first | refine blk_drewN ?_ _ | refine blk_drew ?_ | refine blk_alloc ?_ _)); exact BK9282676.out) hg (Kd.R_ne HO_4.out BK9282676.out y42_)); have n2_ := a_ (hb); have n3_ := a_ (ho); clear BK9297855; clear BK9282676; clear HB; clear HO_4; have BK9297855 := n0_; have BK9282676 := n1_; have HB := n2_; have HO9635597 := n3_; clear n0_ n1_ n2_ n3_; clear ho hb hg hat) | ((with_reducible refine gate_callee (f := 49) rfl ?_); refine gc_ 49 30 Try.func49 #[.slice Ao9997294 x4_1.length co9997294] ?_; (with_reducible refine (slices_Sort_int64_int64.calls k1 (fun k_ => some k_ = (.slice Ao9997294 x4_1.length co9997294 : Value).ownBlock) (.slice Ao9997294 x4_1.length co9997294) x4_1 tx3 w _ ?side1 ?side2 Ay0.out).mono ?_); (case side1 => repeat (first | (with_reducible first | exact HB.out | apply below_alloc | apply pw_below_drewN | apply below_drew1 | refine below_set ?_ GE9297855.out) | exact HB.out)); (case side2 => exact Kd.R_tight rfl HO_4.out); rintro e w9940884 ⟨rfl, hy9563561, hb, hkp⟩; refine ⟨_, rfl, ?_⟩; have n0_ := a_ (Kd.R_reok rfl hy9563561 (fun k_ e_ => HO_4.out.1 k_ e_)); have n1_ := a_ (blk_kept y59_ hkp (fun hs_ => (fun e_ => (Kd.R_ne HO_4.out BK9297855.out y42_) e_) hs_)); have n2_ := a_ (hb); clear HO_4; clear BK9297855; clear HB; have HO_4 := n0_; have BK9297855 := n1_; have HB := n2_; clear n0_ n1_ n2_; (try clear hb); (try clear hkp); (try clear hy9563561)) | ((with_reducible refine gate_callee (f := 50) rfl ?_); refine gc_ 50 32 Try.func50 #[.slice Ao9997294 x4_1.length co9997294] ?_; (with_reducible refine (slices_Compact_int64_int64.calls (fun k_ => some k_ = (.slice Ao9997294 x4_1.length co9997294 : Value).ownBlock) (.slice Ao9997294 x4_1.length co9997294) tx3 tx4 w _ ?side1 ?side2 Ax4.out).mono ?_); (case side1 => repeat (first | (with_reducible first | exact HB.out | apply below_alloc | apply pw_below_drewN | apply below_drew1 | refine below_set ?_ GE9297855.out) | exact HB.out)); (case side2 => exact Kd.R_tight rfl HO_4.out); rintro e w9361934 ⟨v9383979, rfl, ho0, hb, hkp⟩; refine ⟨_, rfl, ?_⟩; have n0_ := a_ (blk_kept y59_ hkp (fun hs_ => (fun e_ => (Kd.R_ne HO_4.out BK9297855.out y42_) e_) hs_)); have n1_ := a_ (Kd.R_mono (ok' := fun k_ => True) ho0 (fun k_ hk_ => trivial)); have n2_ := a_ (hb); clear BK9297855; clear HB; clear HO_4; have BK9297855 := n0_; have HO9768577 := n1_; have HB := n2_; clear n0_ n1_ n2_; (try clear hb); (try clear hkp); (try clear ho0); obtain ⟨Ao9610899, co9610899, eo9610899⟩ := Kd.R_slice HO9768577.out; subst eo9610899; have hcz9958782_0 : w9361934.cell? ⟨gb9297855, 0, none⟩ = some (.int .i64 0) := (blk_cell BK9297855.out 0).trans rfl; have hcz9958782_1 : w9361934.cell? ⟨gb9297855, 1, none⟩ = some (.slice none 0 0) := (blk_cell BK9297855.out 1).trans rfl; have hfz9958782_0 := blk_frozen BK9297855.out 0; have hfz9958782_1 := blk_frozen BK9297855.out 1))
       first
       | fail_if_success clear m1_1
       |(clear m1_1; go_roundg k1
         case measure => have := HK9889537.out; omega)
       first
       | fail_if_success clear m1_2
       |(clear m1_2
         case rel => exact ⟨(y9595925), (wrap64 (x16_1 + 1)), y3_, H', ⟨by have := HK9889537.out; omega⟩, ⟨by (with_reducible repeat (first | apply Kd.R_alloc | apply Kd.R_drewN | apply Kd.R_drew)); exact HO9635597.out⟩, ⟨y59_⟩, ⟨y75_⟩⟩)
       first
       | fail_if_success clear m1_3
       |(clear m1_3
         case rel => exact ⟨(x4_1), (wrap64 (x16_1 + 1)), y3_, H', ⟨by have := HK9889537.out; omega⟩, ⟨y80_⟩, ⟨y74_⟩, ⟨y75_⟩⟩)
       first
       | fail_if_success clear m1_4
       |(clear m1_4; refine bodyPost_ret (results_cell_row rfl _ _ gb9297855 37 #[.int .i64 0, .slice Ao9610899 tx4.length co9610899] (0, 0) _ rfl (by (with_reducible repeat (first | refine blk_drewN ?_ _ | refine blk_drew ?_ | refine blk_alloc ?_ _)); refine blk_put (cs := #[.int .i64 0, .slice none 0 0]) ?_ 1 _ rfl; (with_reducible repeat (first | refine blk_drewN ?_ _ | refine blk_drew ?_ | refine blk_alloc ?_ _)); refine blk_put (cs := #[.int .i64 0, .slice none 0 0]) ?_ 0 _ rfl; (with_reducible repeat (first | refine blk_drewN ?_ _ | refine blk_drew ?_ | refine blk_alloc ?_ _)); exact BK9297855.out) Try.underlying37 rfl y50_) rfl ?_; exact ⟨_, y6_, by (with_reducible repeat (first | apply Kd.R_alloc | apply Kd.R_drewN | apply Kd.R_drew)); exact Kd.R_mono (Kd.R_far (p := ⟨gb9297855, 1, none⟩) (Kd.R_far (p := ⟨gb9297855, 0, none⟩) (Kd.R_types HO9768577.out BK9297855.out y42_) (fun _ hk => hk.2) (.int .i64 0)) (fun _ hk => hk.2) (.slice Ao9610899 tx4.length co9610899)) (fun _ hk => trivial), y43_⟩)))
  first
  | fail_if_success clear m0_3
  |(clear m0_3; refine bodyPost_ret (results_cell_row rfl _ _ gb9297855 37 #[.int .i64 tx0, .slice none 0 0] (0, 0) _ rfl (by (with_reducible repeat (first | refine blk_drewN ?_ _ | refine blk_drew ?_ | refine blk_alloc ?_ _)); refine blk_put (cs := #[.int .i64 tx0, .slice none 0 0]) ?_ 1 _ rfl; (with_reducible repeat (first | refine blk_drewN ?_ _ | refine blk_drew ?_ | refine blk_alloc ?_ _)); refine blk_put (cs := #[.int .i64 0, .slice none 0 0]) ?_ 0 _ rfl; (with_reducible repeat (first | refine blk_drewN ?_ _ | refine blk_drew ?_ | refine blk_alloc ?_ _)); exact BK9297855.out) Try.underlying37 rfl y50_) rfl ?_; exact ⟨_, y6_, y100_, y43_⟩))

end Go.Proofs.Ytmppibhdnajjjaa.V
