-- Written by a program of this session's own (xp.py) for this seat.
import Derived.Test.YtmppibhdnajjjaaCZ
import Derived.Test.YtmppibhdnajjjaaCH
import Derived.Test.YtmppibhdnajjjaaC0
namespace Go.Proofs.Ytmppibhdnajjjaa.C
open Go.RowKit Go.Proofs.YtmppibhdnajjjaaW.PrintWords Go.Proofs.YtmppibhdnajjjaaW.PrintLast Go.Proofs.YtmppibhdnajjjaaW.PrintMore
attribute [local go_sem] Instr.field asAgg
attribute [local go_sem] max2_int min2_int max_two min_two max_three min_three max_four min_four   -- for this text's walks alone
set_option linter.unusedVariables false
set_option linter.unusedSimpArgs false

/-! ### spec_l1Starts: function 85 -/
def spec_l1Starts.f (a0 : ByteArray) (a1 : Int) (a2 : ByteArray) : Option (Bool) := if (wrap64 (a1 + (a2.size : Int))) ≤ (a0.size : Int) then (if 0 ≤ a1 then (if a1 ≤ (wrap64 (a1 + (a2.size : Int))) then (some ((a0.extract (a1 : Int).toNat ((wrap64 (a1 + (a2.size : Int))) : Int).toNat).toList == a2.toList)) else (none)) else (none)) else (some false)
set_option maxHeartbeats 8000000 in
set_option maxRecDepth 100000 in
theorem spec_l1Starts.calls (a0 : ByteArray) (a1 : Int) (a2 : ByteArray) (r : Bool) (w : World) (h : spec_l1Starts.f a0 a1 a2 = some r) :
    Calls Try.prog 85 #[.string a0, .int .i64 a1, .string a2] w fun e w' => e = .returned (.bool r) ∧ Drawn0 w w' := by
 have H : (if (wrap64 (a1 + (a2.size : Int))) ≤ (a0.size : Int) then (if 0 ≤ a1 then (if a1 ≤ (wrap64 (a1 + (a2.size : Int))) then (some ((a0.extract (a1 : Int).toNat ((wrap64 (a1 + (a2.size : Int))) : Int).toNat).toList == a2.toList)) else (none)) else (none)) else (some false)) = some r := h; clear h; by_cases c4 : (wrap64 (a1 + (a2.size : Int))) ≤ (a0.size : Int)
 ·rw [if_pos c4] at H; have c4b0 : decide ((wrap64 (a1 + (a2.size : Int))) ≤ (a0.size : Int)) = true := decide_eq_true c4; clear c4; by_cases c5 : 0 ≤ a1
  ·rw [if_pos c5] at H; have c5b0 := eq_true c5; have c5b1 : decide (0 ≤ a1) = true := decide_eq_true c5; clear c5; by_cases c6 : a1 ≤ (wrap64 (a1 + (a2.size : Int)))
   ·rw [if_pos c6] at H; have c6b0 := eq_true c6; have c6b1 : decide (a1 ≤ (wrap64 (a1 + (a2.size : Int)))) = true := decide_eq_true c6; have c7b0 := eq_true (of_decide_eq_true y3_ : (wrap64 (a1 + (a2.size : Int))) ≤ (a0.size : Int)); obtain rfl := Option.some.inj H; go_enter Try.func85, Try.ntmps85
    go_wp2
    go_ret
    exact ⟨y2_, y4_⟩
   ·rw [if_neg c6] at H; exact absurd H y49_
  ·rw [if_neg c5] at H; exact absurd H y49_
 ·rw [if_neg c4] at H; have c4b0 : decide ((wrap64 (a1 + (a2.size : Int))) ≤ (a0.size : Int)) = false := decide_eq_false c4; clear c4; obtain rfl := Option.some.inj H; go_enter Try.func85, Try.ntmps85
  go_wp2
  go_ret
  exact ⟨y2_, y4_⟩

/-! ### spec_l1End: function 68 -/
mutual
def spec_l1End.j0 : Nat → ByteArray → ByteArray → Int → Option (Int)
  | 0, _, _, _ => none
  | k + 1, x0, x5, x6 => spec_l1End.l0 k x0 x5 x6
def spec_l1End.l0 : Nat → ByteArray → ByteArray → Int → Option (Int)
  | 0, _, _, _ => none
  | k + 1, x0, x5, x7 => if x7 < (x0.size : Int) then ((spec_l1Starts.f x0 x7 x5).bind fun t102 => (if t102 = true then (some (wrap64 (x7 + (x5.size : Int)))) else (spec_l1End.l0 k x0 x5 (wrap64 (x7 + 1))))) else (some 0)
end
def spec_l1End.f (k : Nat) (a0 : ByteArray) (a1 : Int) : Option (Int) := (spec_l1Starts.f a0 a1 (⟨#[60, 33, 45, 45]⟩ : ByteArray)).bind fun t101 => (if t101 = true then (spec_l1End.j0 k a0 (⟨#[45, 45, 62]⟩ : ByteArray) (wrap64 (a1 + 4))) else (spec_l1End.j0 k a0 (⟨#[62]⟩ : ByteArray) (wrap64 (a1 + 1))))
theorem spec_l1End.mono_l : ∀ k, (∀ y0 y1 y2, LeO (spec_l1End.j0 k y0 y1 y2) (spec_l1End.j0 (k + 1) y0 y1 y2)) ∧ (∀ y0 y1 y2, LeO (spec_l1End.l0 k y0 y1 y2) (spec_l1End.l0 (k + 1) y0 y1 y2))
  | 0 => ⟨fun _ _ _ r h => by simp [spec_l1End.j0] at h, fun _ _ _ r h => by simp [spec_l1End.l0] at h⟩
  | k + 1 => by
    obtain ⟨ih0, ih1⟩ := spec_l1End.mono_l k
    refine ⟨?_, ?_⟩
    · intro y0 y1 y2
      unfold spec_l1End.j0
      repeat' (with_reducible first | exact ih0 _ _ _ | exact ih1 _ _ _ | exact LeO.refl _ | exact LeO.none _ | refine LeO.ite ?_ ?_ | refine LeO.bind ?_ (fun _ => ?_))
    · intro y0 y1 y2
      unfold spec_l1End.l0
      repeat' (with_reducible first | exact ih0 _ _ _ | exact ih1 _ _ _ | exact LeO.refl _ | exact LeO.none _ | refine LeO.ite ?_ ?_ | refine LeO.bind ?_ (fun _ => ?_))
theorem spec_l1End.mono : ∀ a0 a1 k, LeO (spec_l1End.f k a0 a1) (spec_l1End.f (k + 1) a0 a1) := by
  intro a0 a1 k
  obtain ⟨ih0, ih1⟩ := spec_l1End.mono_l k
  unfold spec_l1End.f
  repeat' (with_reducible first | exact ih0 _ _ _ | exact ih1 _ _ _ | exact LeO.refl _ | exact LeO.none _ | refine LeO.ite ?_ ?_ | refine LeO.bind ?_ (fun _ => ?_))
set_option maxHeartbeats 8000000 in
set_option maxRecDepth 100000 in
theorem spec_l1End.calls (k : Nat) (a0 : ByteArray) (a1 : Int) (r : Int) (w : World) (h : spec_l1End.f k a0 a1 = some r) :
    Calls Try.prog 68 #[.string a0, .int .i64 a1] w fun e w' => e = .returned (.int .i64 r) ∧ Drawn0 w w' := by
 have H : ((spec_l1Starts.f a0 a1 (⟨#[60, 33, 45, 45]⟩ : ByteArray)).bind fun t101 => (if t101 = true then (spec_l1End.j0 k a0 (⟨#[45, 45, 62]⟩ : ByteArray) (wrap64 (a1 + 4))) else (spec_l1End.j0 k a0 (⟨#[62]⟩ : ByteArray) (wrap64 (a1 + 1))))) = some r := h; clear h; replace H := Option.bind_eq_some_iff.mp H; obtain ⟨t101, A30, H⟩ := H; have A3 := a_ A30; clear A30; have HC4 := a_ H; clear H; go_enter Try.func68, Try.ntmps68
 go_upto_if 12 with (first | ((with_reducible refine gate_callee (f := 85) rfl ?_); refine gc_ 85 12 Try.func85 #[.string a0, .int .i64 a1, .string (⟨#[60, 33, 45, 45]⟩ : ByteArray)] ?_; (with_reducible refine (spec_l1Starts.calls a0 a1 (⟨#[60, 33, 45, 45]⟩ : ByteArray) t101 _ A3.out).mono ?_); rintro e w' ⟨rfl, ⟨nd, rfl⟩⟩; refine ⟨_, rfl, ?_⟩))
 (try simp only [Act.put, List.setIfInBounds_toArray, List.set_cons_zero, List.set_cons_succ]); go_cut [5, 6] (fun v5 v6 wc => ∃ (kq : Nat) (x5_3 : ByteArray) (x6_3 : Int), v5 = .string x5_3 ∧ v6 = .int .i64 x6_3 ∧ Aside0 (spec_l1End.j0 kq a0 x5_3 x6_3 = some r) ∧ Aside0 (kq ≤ k) ∧ Drawn0 w wc)
 case first =>
  have H := HC4.out; clear HC4; by_cases cx0 : t101 = true
  ·subst cx0; rw [if_pos rfl] at H; have H' := a_ H; clear H; go_wp2
   go_meet
   case rel => exact ⟨_, ((⟨#[45, 45, 62]⟩ : ByteArray)), (wrap64 (a1 + 4)), y2_, y2_, H', ⟨by first | omega | exact Nat.le_refl _⟩, y4_⟩
  ·replace cx0 := Bool.eq_false_iff.mpr cx0; subst cx0; rw [if_neg (show ¬ (false = true) by decide)] at H; have H' := a_ H; clear H; go_wp2
   go_meet
   case rel => exact ⟨_, ((⟨#[62]⟩ : ByteArray)), (wrap64 (a1 + 1)), y2_, y2_, H', ⟨by first | omega | exact Nat.le_refl _⟩, y4_⟩
 case rest =>
  clear HC4; obtain ⟨kq, x5_3, x6_3, rfl, rfl, HA, HJ3, ⟨mc3, rfl⟩⟩ := hcut; cases kq with
  | zero => exact absurd HA.out (by simp [spec_l1End.j0])
  | succ kj3 =>
   have H := HA.out; clear HA; simp only [spec_l1End.j0] at H; have H' := a_ H; clear H; go_wp2
   go_loopg [7] kj3 (fun kq v7 w' => ∃ (x7_2 : Int), v7 = .int .i64 x7_2 ∧ Aside0 (spec_l1End.l0 kq a0 x5_3 x7_2 = some r) ∧ Aside0 (kq ≤ kj3) ∧ Drawn0 w w')
   case atStart => exact ⟨(x6_3), y2_, H', ⟨Nat.le_refl _⟩, y4_⟩
   case round =>
    clear H'; obtain ⟨x7_2, rfl, HA, HK2, ⟨m2, rfl⟩⟩ := hrel; cases gk with
    | zero => exact absurd HA.out (by simp [spec_l1End.l0])
    | succ k2 =>
     have H := HA.out; clear HA; simp only [spec_l1End.l0] at H; by_cases cx0 : x7_2 < (a0.size : Int); rw [if_pos cx0] at H; have cx0b0 : decide (x7_2 < (a0.size : Int)) = true := decide_eq_true cx0; clear cx0; replace H := Option.bind_eq_some_iff.mp H; obtain ⟨tx1, Ay1, H⟩ := H; have Ax1 := a_ Ay1; clear Ay1; by_cases cx2 : tx1 = true; subst cx2; rw [if_pos rfl] at H; obtain rfl := Option.some.inj H; have m0_0 := t_; have m0_1 := t_; rotate_left; replace cx2 := Bool.eq_false_iff.mpr cx2; subst cx2; rw [if_neg (show ¬ (false = true) by decide)] at H; have H' := a_ H; clear H; have m0_0 := t_; have m0_2 := t_; rotate_left; rw [if_neg cx0] at H; have cx0b0 : decide (x7_2 < (a0.size : Int)) = false := decide_eq_false cx0; clear cx0; obtain rfl := Option.some.inj H; have m0_3 := t_; rotate_left
     all_goals (
      first
      | fail_if_success clear m0_0
      |(clear m0_0; go_wp2_with (first | ((with_reducible refine gate_callee (f := 85) rfl ?_); refine gc_ 85 25 Try.func85 #[.string a0, .int .i64 x7_2, .string x5_3] ?_; (with_reducible refine (spec_l1Starts.calls a0 x7_2 x5_3 _ _ Ax1.out).mono ?_); rintro e w' ⟨rfl, ⟨nd, rfl⟩⟩; refine ⟨_, rfl, ?_⟩)))
      first
      | fail_if_success clear m0_1
      |(clear m0_1; go_ret
        exact ⟨y2_, y4_⟩)
      first
      | fail_if_success clear m0_2
      |(clear m0_2; go_roundg k2
        case measure => have := HJ3.out; have := HK2.out; omega
        case rel => exact ⟨(wrap64 (x7_2 + 1)), y2_, H', ⟨by have := HJ3.out; have := HK2.out; omega⟩, y4_⟩)
      first
      | fail_if_success clear m0_3
      |(clear m0_3; go_wp2
        go_ret
        exact ⟨y2_, y4_⟩))

/-! ### spec_l1Cut: function 33 -/
mutual
def spec_l1Cut.l0 : Nat → ByteArray → List ByteArray → Int → Option (List ByteArray × Bool)
  | 0, _, _, _ => none
  | k + 1, x0, x4, x5 => if x5 < (x0.size : Int) then (if 0 ≤ x5 then (if (bt x0 x5) = 60 then ((spec_l1End.f k x0 x5).bind fun t106 => (if t106 = 0 then (some (([] : List ByteArray), false)) else (if x5 ≤ t106 then (if t106 ≤ (x0.size : Int) then (if x4.length < 8796093022208 then (spec_l1Cut.l0 k x0 (x4 ++ [x0.extract (x5 : Int).toNat (t106 : Int).toNat]) t106) else (none)) else (none)) else (none)))) else (spec_l1Cut.l1 k x0 x4 x5 x5)) else (none)) else (some (x4, true))
def spec_l1Cut.l1 : Nat → ByteArray → List ByteArray → Int → Int → Option (List ByteArray × Bool)
  | 0, _, _, _, _ => none
  | k + 1, x0, x4, x5, x7 => if x5 < (x0.size : Int) then (if 0 ≤ x5 then (spec_l1Cut.j2 k x0 x4 x5 x7 ((bt x0 x5) != 60)) else (none)) else (spec_l1Cut.j2 k x0 x4 x5 x7 false)
def spec_l1Cut.j2 : Nat → ByteArray → List ByteArray → Int → Int → Bool → Option (List ByteArray × Bool)
  | 0, _, _, _, _, _ => none
  | k + 1, x0, x4, x5, x7, x40 => if x40 = true then (if 0 ≤ x5 then (if x5 < (x0.size : Int) then (if (bt x0 x5) = 62 then (some (([] : List ByteArray), false)) else (spec_l1Cut.l1 k x0 x4 (wrap64 (x5 + 1)) x7)) else (none)) else (none)) else (if 0 ≤ x7 then (if x7 ≤ x5 then (if x5 ≤ (x0.size : Int) then (if x4.length < 8796093022208 then (spec_l1Cut.l0 k x0 (x4 ++ [x0.extract (x7 : Int).toNat (x5 : Int).toNat]) x5) else (none)) else (none)) else (none)) else (none))
end
def spec_l1Cut.f (k : Nat) (a0 : ByteArray) : Option (List ByteArray × Bool) := spec_l1Cut.l0 k a0 (([] : List ByteArray)) 0
theorem spec_l1Cut.mono_l : ∀ k, (∀ y0 y1 y2, LeO (spec_l1Cut.l0 k y0 y1 y2) (spec_l1Cut.l0 (k + 1) y0 y1 y2)) ∧ (∀ y0 y1 y2 y3, LeO (spec_l1Cut.l1 k y0 y1 y2 y3) (spec_l1Cut.l1 (k + 1) y0 y1 y2 y3)) ∧ (∀ y0 y1 y2 y3 y4, LeO (spec_l1Cut.j2 k y0 y1 y2 y3 y4) (spec_l1Cut.j2 (k + 1) y0 y1 y2 y3 y4))
  | 0 => ⟨fun _ _ _ r h => by simp [spec_l1Cut.l0] at h, fun _ _ _ _ r h => by simp [spec_l1Cut.l1] at h, fun _ _ _ _ _ r h => by simp [spec_l1Cut.j2] at h⟩
  | k + 1 => by
    obtain ⟨ih0, ih1, ih2⟩ := spec_l1Cut.mono_l k
    refine ⟨?_, ?_, ?_⟩
    · intro y0 y1 y2
      unfold spec_l1Cut.l0
      repeat' (with_reducible first | exact ih0 _ _ _ | exact ih1 _ _ _ _ | exact ih2 _ _ _ _ _ | exact spec_l1End.mono _ _ _ | exact LeO.refl _ | exact LeO.none _ | refine LeO.ite ?_ ?_ | refine LeO.bind ?_ (fun _ => ?_))
    · intro y0 y1 y2 y3
      unfold spec_l1Cut.l1
      repeat' (with_reducible first | exact ih0 _ _ _ | exact ih1 _ _ _ _ | exact ih2 _ _ _ _ _ | exact spec_l1End.mono _ _ _ | exact LeO.refl _ | exact LeO.none _ | refine LeO.ite ?_ ?_ | refine LeO.bind ?_ (fun _ => ?_))
    · intro y0 y1 y2 y3 y4
      unfold spec_l1Cut.j2
      repeat' (with_reducible first | exact ih0 _ _ _ | exact ih1 _ _ _ _ | exact ih2 _ _ _ _ _ | exact spec_l1End.mono _ _ _ | exact LeO.refl _ | exact LeO.none _ | refine LeO.ite ?_ ?_ | refine LeO.bind ?_ (fun _ => ?_))
theorem spec_l1Cut.mono : ∀ a0 k, LeO (spec_l1Cut.f k a0) (spec_l1Cut.f (k + 1) a0) := by
  intro a0 k
  obtain ⟨ih0, ih1, ih2⟩ := spec_l1Cut.mono_l k
  unfold spec_l1Cut.f
  repeat' (with_reducible first | exact ih0 _ _ _ | exact ih1 _ _ _ _ | exact ih2 _ _ _ _ _ | exact spec_l1End.mono _ _ _ | exact LeO.refl _ | exact LeO.none _ | refine LeO.ite ?_ ?_ | refine LeO.bind ?_ (fun _ => ?_))
set_option maxHeartbeats 8000000 in
set_option maxRecDepth 100000 in
theorem spec_l1Cut.calls (k : Nat) (a0 : ByteArray) (r1 : List ByteArray) (r2 : Bool) (w : World) (h : spec_l1Cut.f k a0 = some (r1, r2)) :
    Calls Try.prog 33 #[.string a0] w fun e w' => ∃ v0_ : Value, e = .returned (.tuple #[v0_, .bool r2]) ∧ Kd.R Kd.string 9 w' w.heap.size (fun _ => True) v0_ r1 ∧ Below w.heap.size w w' := by
 have HB := a_ (Below.refl w.heap.size w); have H : (spec_l1Cut.l0 k a0 (([] : List ByteArray)) 0) = some (r1, r2) := h; clear h; obtain ⟨y103, hy_⟩ : ∃ y_ : List ByteArray, y_ = (([] : List ByteArray)) := ⟨_, rfl⟩; replace H : (spec_l1Cut.l0 k a0 y103 0) = some (r1, r2) := z0_; have Ny103 := a_ hy_; clear hy_; have H' := a_ H; clear H; go_enter Try.func33, Try.ntmps33
 go_wp2_with (first | ((with_reducible refine gate_dst (N := 8) rfl ?_); refine Kd.R_lit Kd.string _ 9 ?hg (N := 8) ?hd (xs := ([] : List ByteArray)) (inner := []) (ok := fun _ => True) (okp := fun _ => True) ?hr ?hp (fun _ hk => hk) trivial (Below.refl _ _) (Nat.le_refl _) y49_ ?_; (case hd => rfl); (case hg => rfl); (case hr => first | (go_simp; done) | (go_simp; rfl)); (case hp => exact (Reps.none _ _)); intro v104 w2 ho3 hb hg_ hnew_; clear hg_ hnew_; (first | rw [← Ny103.out] at ho3 | (simp only [Int.reduceToNat] at ho3; rw [← Ny103.out] at ho3)); have n0_ := a_ (Kd.R_lower ho3 (below_size y0_)); have n1_ := a_ (below_step y0_ hb); clear HB; have HO105 := n0_; have HB := n1_; clear n0_ n1_; clear hb ho3))
 go_loopg [4, 5] k (fun kq v4 v5 w' => ∃ (x4_1 : List ByteArray) (x5_1 : Int), v5 = .int .i64 x5_1 ∧ Aside0 (spec_l1Cut.l0 kq a0 x4_1 x5_1 = some (r1, r2)) ∧ Aside0 (kq ≤ k) ∧ Aside0 (Kd.R Kd.string 9 w' w.heap.size (fun _ => True) v4 x4_1) ∧ Aside0 (Below w.heap.size w w'))
 case atStart => exact ⟨(y103), (0), y2_, H', ⟨Nat.le_refl _⟩, ⟨by (with_reducible repeat (first | apply Kd.R_alloc | apply Kd.R_drewN | apply Kd.R_drew)); exact HO105.out⟩, ⟨y0_⟩⟩
 case round =>
  clear H'; obtain ⟨x4_1, x5_1, rfl, HA, HK1, HO_4, HB⟩ := hrel; cases gk with
  | zero => exact absurd HA.out (by simp [spec_l1Cut.l0])
  | succ k1 =>
   have H := HA.out; clear HA; simp only [spec_l1Cut.l0] at H; by_cases cx0 : x5_1 < (a0.size : Int); rw [if_pos cx0] at H; have cx0b0 : decide (x5_1 < (a0.size : Int)) = true := decide_eq_true cx0; clear cx0; by_cases cx1 : 0 ≤ x5_1; rw [if_pos cx1] at H; have cx1b0 : decide (0 ≤ x5_1) = true := decide_eq_true cx1; clear cx1; by_cases cx2 : (bt a0 x5_1) = 60; rw [if_pos cx2] at H; have cx2b0 : ((bt a0 x5_1) == 60) = true := beq_iff_eq.mpr cx2; have cx2b1 : ((bt a0 x5_1) != 60) = false := bne_eq_false_iff_eq.mpr cx2; clear cx2; replace H := Option.bind_eq_some_iff.mp H; obtain ⟨tx3, Ay3, H⟩ := H; have Ax3 := a_ Ay3; clear Ay3; by_cases cx4 : tx3 = 0; rw [if_pos cx4] at H; have cx4b0 : (tx3 == 0) = true := beq_iff_eq.mpr cx4; have cx4b1 : (tx3 != 0) = false := bne_eq_false_iff_eq.mpr cx4; clear cx4; simp only [Option.some.injEq, Prod.mk.injEq] at H; obtain ⟨rfl, rfl⟩ := H; have m0_0 := t_; have m0_1 := t_; have m0_2 := t_; rotate_left; rw [if_neg cx4] at H; have cx4b0 : (tx3 == 0) = false := beq_eq_false_iff_ne.mpr cx4; have cx4b1 : (tx3 != 0) = true := bne_iff_ne.mpr cx4; have c10b0 := eq_true (of_decide_eq_true y3_ : 0 ≤ x5_1); by_cases cx5 : x5_1 ≤ tx3; rw [if_pos cx5] at H; have cx5b0 := eq_true cx5; have cx5b1 : decide (x5_1 ≤ tx3) = true := decide_eq_true cx5; clear cx5; by_cases cx6 : tx3 ≤ (a0.size : Int); rw [if_pos cx6] at H; have cx6b0 := eq_true cx6; have cx6b1 : decide (tx3 ≤ (a0.size : Int)) = true := decide_eq_true cx6; clear cx6; by_cases cx7 : x4_1.length < 8796093022208; rw [if_pos cx7] at H; have LMcx7 := a_ cx7; clear cx7; obtain ⟨y107, hy_⟩ : ∃ y_ : List ByteArray, y_ = (x4_1 ++ [a0.extract (x5_1 : Int).toNat (tx3 : Int).toNat]) := ⟨_, rfl⟩; replace H : (spec_l1Cut.l0 k1 a0 y107 tx3) = some (r1, r2) := z0_; have Ny107 := a_ hy_; clear hy_; have H' := a_ H; clear H; have m0_0 := t_; have m0_1 := t_; have m0_3 := t_; rotate_left
   ·rw [if_neg cx7] at H; exact absurd H y49_
   ·rw [if_neg cx6] at H; exact absurd H y49_
   ·rw [if_neg cx5] at H; exact absurd H y49_
   rw [if_neg cx2] at H; have cx2b0 : ((bt a0 x5_1) == 60) = false := beq_eq_false_iff_ne.mpr cx2; have cx2b1 : ((bt a0 x5_1) != 60) = true := bne_iff_ne.mpr cx2; have H' := a_ H; clear H; have m0_0 := t_; have m0_4 := t_; rotate_left
   ·rw [if_neg cx1] at H; exact absurd H y49_
   rw [if_neg cx0] at H; have cx0b0 : decide (x5_1 < (a0.size : Int)) = false := decide_eq_false cx0; clear cx0; simp only [Option.some.injEq, Prod.mk.injEq] at H; obtain ⟨rfl, rfl⟩ := H; have m0_5 := t_; rotate_left
   all_goals (
    first
    | fail_if_success clear m0_0
    |(clear m0_0; have p9922068 : 0 ≤ (x5_1 : Int) := of_decide_eq_true y3_; have q9922068 : x5_1 < (a0.size : Int) := of_decide_eq_true y3_; have hx9922068 := bt_at a0 x5_1; replace p9922068 := eq_true p9922068; replace q9922068 := eq_true q9922068)
    first
    | fail_if_success clear m0_1
    |(clear m0_1; go_wp2_with (first | ((with_reducible refine gate_callee (f := 68) rfl ?_); refine gc_ 68 19 Try.func68 #[.string a0, .int .i64 x5_1] ?_; (with_reducible refine (spec_l1End.calls k1 a0 x5_1 tx3 _ Ax3.out).mono ?_); rintro e w' ⟨rfl, ⟨nd, rfl⟩⟩; refine ⟨_, rfl, ?_⟩) | ((with_reducible refine gate_builtin (b := .append) (xs := #[.tmp 22, .tmp 27]) rfl ?_); at_builtin; refine Kd.R_append Kd.string (w0 := w) w.heap.size rfl (.tmp 22) (.tmp 27) 22 9 (.string ⟨#[]⟩) 16 rfl Try.underlying22 info9 rfl (by decide) (by omega) u4 x4_1 (a0.extract (x5_1 : Int).toNat (tx3 : Int).toNat) [.string (a0.extract (x5_1 : Int).toNat (tx3 : Int).toNat)] (fun _ => True) (fun _ => False) rfl rfl ?aP (fun _ hk => hk.elim) ?aF ?aO ?aB ?aS ?aL ?_; (case aP => exact rfl); (case aB => exact y0_); (case aF => exact (fun _ _ => trivial)); (case aO => exact y28_); (case aS => exact (below_size y0_)); (case aL => have := LMcx7.out; omega); intro v9808482 w9500724 ho hb hg hat; rw [← Ny107.out] at ho; have n0_ := a_ (hb); have n1_ := a_ (ho); clear HB; clear HO_4; have HB := n0_; have HO9823454 := n1_; clear n0_ n1_; clear ho hb hg hat)))
    first
    | fail_if_success clear m0_2
    |(clear m0_2; go_ret2
      exact ⟨_, y5_, y21_, y0_⟩)
    first
    | fail_if_success clear m0_3
    |(clear m0_3; go_roundg k1
      case measure => have := HK1.out; omega
      case rel => exact ⟨(y107), (tx3), y2_, H', ⟨y45_⟩, ⟨by (with_reducible repeat (first | apply Kd.R_alloc | apply Kd.R_drewN | apply Kd.R_drew)); exact HO9823454.out⟩, ⟨y0_⟩⟩)
    first
    | fail_if_success clear m0_4
    |(clear m0_4; go_wp2
      go_loopg [5] k1 (fun kq v5 w' => ∃ (x5_2 : Int), v5 = .int .i64 x5_2 ∧ Aside0 (spec_l1Cut.l1 kq a0 x4_1 x5_2 x5_1 = some (r1, r2)) ∧ Aside0 (kq ≤ k1) ∧ Aside0 (Kd.R Kd.string 9 w' w.heap.size (fun _ => True) u4 x4_1) ∧ Aside0 (Below w.heap.size w w'))
      case atStart => exact ⟨(x5_1), y2_, H', ⟨Nat.le_refl _⟩, ⟨y28_⟩, ⟨y0_⟩⟩
      case round =>
       clear H'; (try clear cx0); (try clear cx0b0); (try clear cx1); (try clear cx1b0); (try clear cx2); (try clear cx2b0); (try clear cx2b1); (try clear c10b0); obtain ⟨x5_2, rfl, HA, HK9553462, HO_4, HB⟩ := hrel; cases gk with
       | zero => exact absurd HA.out (by simp [spec_l1Cut.l1])
       | succ k2 =>
        have H := HA.out; clear HA; simp only [spec_l1Cut.l1] at H; have HC15 := a_ H; clear H; go_upto_region 11 with (fail)
        go_cut [40] (fun v9445392 wc => ∃ (kq : Nat) (x40_14 : Bool), v9445392 = .bool x40_14 ∧ Aside0 (spec_l1Cut.j2 kq a0 x4_1 x5_2 x5_1 x40_14 = some (r1, r2)) ∧ Aside0 (kq ≤ k2) ∧ Aside0 (Kd.R Kd.string 9 wc w.heap.size (fun _ => True) u4 x4_1) ∧ Aside0 (Below w.heap.size w wc))
        case first =>
         have H := HC15.out; clear HC15; by_cases cx3 : x5_2 < (a0.size : Int)
         ·rw [if_pos cx3] at H; have cx3b0 : decide (x5_2 < (a0.size : Int)) = true := decide_eq_true cx3; clear cx3; (first | rw [cx3b0] | (simp only [i64_w, i32_w]; rw [cx3b0]) | skip); by_cases cx4 : 0 ≤ x5_2
          ·rw [if_pos cx4] at H; have cx4b0 : decide (0 ≤ x5_2) = true := decide_eq_true cx4; clear cx4; have H' := a_ H; clear H; have p9548309 : 0 ≤ (x5_2 : Int) := of_decide_eq_true y3_; have q9548309 : x5_2 < (a0.size : Int) := of_decide_eq_true y3_; have hx9548309 := bt_at a0 x5_2; replace p9548309 := eq_true p9548309; replace q9548309 := eq_true q9548309; go_wp2
           go_meet
           case rel => exact ⟨_, (((bt a0 x5_2) != 60)), y2_, H', ⟨by have := HK1.out; have := HK9553462.out; first | omega | exact Nat.le_refl _⟩, ⟨y28_⟩, ⟨y0_⟩⟩
          ·rw [if_neg cx4] at H; exact absurd H y49_
         ·rw [if_neg cx3] at H; have cx3b0 : decide (x5_2 < (a0.size : Int)) = false := decide_eq_false cx3; clear cx3; (first | rw [cx3b0] | (simp only [i64_w, i32_w]; rw [cx3b0]) | skip); have H' := a_ H; clear H; go_wp2
          go_meet
          case rel => exact ⟨_, (false), y2_, H', ⟨by have := HK1.out; have := HK9553462.out; first | omega | exact Nat.le_refl _⟩, ⟨y28_⟩, ⟨y0_⟩⟩
        case rest =>
         clear HC15; (try clear cx0); (try clear cx0b0); (try clear cx1); (try clear cx1b0); (try clear cx2); (try clear cx2b0); (try clear cx2b1); (try clear c10b0); obtain ⟨kq, x40_14, rfl, HA, HJ14, HO_4, HB⟩ := hcut; cases kq with
         | zero => exact absurd HA.out (by simp [spec_l1Cut.j2])
         | succ kj14 =>
          have H := HA.out; clear HA; simp only [spec_l1Cut.j2] at H; by_cases cx3 : x40_14 = true; subst cx3; rw [if_pos rfl] at H; by_cases cx4 : 0 ≤ x5_2; rw [if_pos cx4] at H; have cx4b0 : decide (0 ≤ x5_2) = true := decide_eq_true cx4; clear cx4; by_cases cx5 : x5_2 < (a0.size : Int); rw [if_pos cx5] at H; have cx5b0 : decide (x5_2 < (a0.size : Int)) = true := decide_eq_true cx5; clear cx5; by_cases cx6 : (bt a0 x5_2) = 62; rw [if_pos cx6] at H; have cx6b0 : ((bt a0 x5_2) == 62) = true := beq_iff_eq.mpr cx6; have cx6b1 : ((bt a0 x5_2) != 62) = false := bne_eq_false_iff_eq.mpr cx6; clear cx6; simp only [Option.some.injEq, Prod.mk.injEq] at H; obtain ⟨rfl, rfl⟩ := H; have m1_0 := t_; have m1_1 := t_; rotate_left; rw [if_neg cx6] at H; have cx6b0 : ((bt a0 x5_2) == 62) = false := beq_eq_false_iff_ne.mpr cx6; have cx6b1 : ((bt a0 x5_2) != 62) = true := bne_iff_ne.mpr cx6; have H' := a_ H; clear H; have m1_0 := t_; have m1_2 := t_; rotate_left
          ·rw [if_neg cx5] at H; exact absurd H y49_
          ·rw [if_neg cx4] at H; exact absurd H y49_
          replace cx3 := Bool.eq_false_iff.mpr cx3; subst cx3; rw [if_neg (show ¬ (false = true) by decide)] at H; by_cases cx4 : 0 ≤ x5_1; rw [if_pos cx4] at H; have cx4b0 := eq_true cx4; have cx4b1 : decide (0 ≤ x5_1) = true := decide_eq_true cx4; clear cx4; by_cases cx5 : x5_1 ≤ x5_2; rw [if_pos cx5] at H; have cx5b0 := eq_true cx5; have cx5b1 : decide (x5_1 ≤ x5_2) = true := decide_eq_true cx5; clear cx5; by_cases cx6 : x5_2 ≤ (a0.size : Int); rw [if_pos cx6] at H; have cx6b0 := eq_true cx6; have cx6b1 : decide (x5_2 ≤ (a0.size : Int)) = true := decide_eq_true cx6; clear cx6; by_cases cx7 : x4_1.length < 8796093022208; rw [if_pos cx7] at H; have LMcx7 := a_ cx7; clear cx7; obtain ⟨y9595925, hy_⟩ : ∃ y_ : List ByteArray, y_ = (x4_1 ++ [a0.extract (x5_1 : Int).toNat (x5_2 : Int).toNat]) := ⟨_, rfl⟩; replace H : (spec_l1Cut.l0 kj14 a0 y9595925 x5_2) = some (r1, r2) := z0_; have Ny9595925 := a_ hy_; clear hy_; have H' := a_ H; clear H; have m1_3 := t_; rotate_left
          ·rw [if_neg cx7] at H; exact absurd H y49_
          ·rw [if_neg cx6] at H; exact absurd H y49_
          ·rw [if_neg cx5] at H; exact absurd H y49_
          ·rw [if_neg cx4] at H; exact absurd H y49_
          all_goals (
           first
           | fail_if_success clear m1_0
           |(clear m1_0; have p9058667 : 0 ≤ (x5_2 : Int) := of_decide_eq_true y3_; have q9058667 : x5_2 < (a0.size : Int) := of_decide_eq_true y3_; have hx9058667 := bt_at a0 x5_2; replace p9058667 := eq_true p9058667; replace q9058667 := eq_true q9058667; go_wp2)
           first
           | fail_if_success clear m1_1
           |(clear m1_1; go_ret2
             exact ⟨_, y5_, y21_, y0_⟩)
           first
           | fail_if_success clear m1_2
           |(clear m1_2; go_roundg kj14
             case measure => have := HK1.out; have := HK9553462.out; have := HJ14.out; omega
             case rel => exact ⟨(wrap64 (x5_2 + 1)), y2_, H', ⟨by have := HK1.out; have := HK9553462.out; have := HJ14.out; omega⟩, ⟨y28_⟩, ⟨y0_⟩⟩)
           first
           | fail_if_success clear m1_3
           |(clear m1_3; go_wp2_with (first | ((with_reducible refine gate_builtin (b := .append) (xs := #[.tmp 47, .tmp 52]) rfl ?_); at_builtin; refine Kd.R_append Kd.string (w0 := w) w.heap.size rfl (.tmp 47) (.tmp 52) 22 9 (.string ⟨#[]⟩) 16 rfl Try.underlying22 info9 rfl (by decide) (by omega) u4 x4_1 (a0.extract (x5_1 : Int).toNat (x5_2 : Int).toNat) [.string (a0.extract (x5_1 : Int).toNat (x5_2 : Int).toNat)] (fun _ => True) (fun _ => False) rfl rfl ?aP (fun _ hk => hk.elim) ?aF ?aO ?aB ?aS ?aL ?_; (case aP => exact rfl); (case aB => exact y0_); (case aF => exact (fun _ _ => trivial)); (case aO => exact y28_); (case aS => exact (below_size y0_)); (case aL => have := LMcx7.out; omega); intro v9808482 w9500724 ho hb hg hat; rw [← Ny9595925.out] at ho; have n0_ := a_ (hb); have n1_ := a_ (ho); clear HB; clear HO_4; have HB := n0_; have HO9039807 := n1_; clear n0_ n1_; clear ho hb hg hat))
             go_roundg kj14
             case measure => have := HK1.out; have := HK9553462.out; have := HJ14.out; omega
             case rel => exact ⟨(y9595925), (x5_2), y2_, H', ⟨by have := HK1.out; have := HK9553462.out; have := HJ14.out; omega⟩, ⟨by (with_reducible repeat (first | apply Kd.R_alloc | apply Kd.R_drewN | apply Kd.R_drew)); exact HO9039807.out⟩, ⟨y0_⟩⟩)))
    first
    | fail_if_success clear m0_5
    |(clear m0_5; go_wp2
      go_ret2
      exact ⟨_, y5_, y28_, y0_⟩))

/-! ### spec_CutMarks: function 7 -/
def spec_CutMarks.f (k : Nat) (a0 : ByteArray) : Option (Int × List ByteArray) := if (a0.size : Int) > 1500 then (some (2, ([] : List ByteArray))) else ((spec_l1Cut.f k a0).bind fun bt114 => (if bt114.2 = true then (some (0, bt114.1)) else (some (5, ([] : List ByteArray)))))
theorem spec_CutMarks.mono : ∀ a0 k, LeO (spec_CutMarks.f k a0) (spec_CutMarks.f (k + 1) a0) := by
  intro a0 k
  unfold spec_CutMarks.f
  repeat' (with_reducible first | exact spec_l1Cut.mono _ _ | exact LeO.refl _ | exact LeO.none _ | refine LeO.ite ?_ ?_ | refine LeO.bind ?_ (fun _ => ?_))
set_option maxHeartbeats 8000000 in
set_option maxRecDepth 100000 in
theorem spec_CutMarks.calls (k : Nat) (a0 : ByteArray) (r1 : Int) (r2 : List ByteArray) (w : World) (h : spec_CutMarks.f k a0 = some (r1, r2)) :
    Calls Try.prog 7 #[.string a0] w fun e w' => ∃ v1_ : Value, e = .returned (.agg #[.int .i64 r1, v1_]) ∧ Kd.R Kd.string 9 w' w.heap.size (fun _ => True) v1_ r2 ∧ Below w.heap.size w w' := by
 have hu24 := Try.underlying24; have HB := a_ (Below.refl w.heap.size w); have H : (if (a0.size : Int) > 1500 then (some (2, ([] : List ByteArray))) else ((spec_l1Cut.f k a0).bind fun bt114 => (if bt114.2 = true then (some (0, bt114.1)) else (some (5, ([] : List ByteArray)))))) = some (r1, r2) := h; clear h; by_cases cx0 : (a0.size : Int) > 1500; rw [if_pos cx0] at H; have cx0b0 : decide (1500 < (a0.size : Int)) = true := decide_eq_true cx0; have cx0b1 : decide (1500 < a0.size) = true := decide_eq_true (by omega); clear cx0; simp only [Option.some.injEq, Prod.mk.injEq] at H; obtain ⟨rfl, rfl⟩ := H; have m0_0 := t_; have m0_4 := t_; have m0_6 := t_; rotate_left; rw [if_neg cx0] at H; have cx0b0 : decide (1500 < (a0.size : Int)) = false := decide_eq_false cx0; have cx0b1 : decide (1500 < a0.size) = false := decide_eq_false (by omega); clear cx0; replace H := Option.bind_eq_some_iff.mp H; obtain ⟨⟨t114, t115⟩, A50, H⟩ := H; replace H : (if t115 = true then (some (0, t114)) else (some (5, ([] : List ByteArray)))) = some (r1, r2) := H; have A5 := a_ A50; clear A50; by_cases cx1 : t115 = true; subst cx1; rw [if_pos rfl] at H; simp only [Option.some.injEq, Prod.mk.injEq] at H; obtain ⟨rfl, rfl⟩ := H; have m0_1 := t_; have m0_2 := t_; have m0_7 := t_; rotate_left; replace cx1 := Bool.eq_false_iff.mpr cx1; subst cx1; rw [if_neg (show ¬ (false = true) by decide)] at H; simp only [Option.some.injEq, Prod.mk.injEq] at H; obtain ⟨rfl, rfl⟩ := H; have m0_1 := t_; have m0_3 := t_; have m0_5 := t_; have m0_6 := t_; rotate_left
 all_goals (
  go_enter Try.func7, Try.ntmps7
  go_wp2_with (first | (have mkq_ := m0_0; clear mkq_; (with_reducible refine gate_dst (N := 2) rfl ?_); refine box_event zr_ (N := 2) zr_ (cs := #[.int .i64 0, .slice none 0 0]) (t := 24) zs_ ?_; intro gb9924814 hg w9056686 hbox hb; have n0_ := a_ (below_step y0_ hb); have n1_ := a_ (hbox); have n2_ := a_ ((by rw [hg]; exact (below_size y0_) : w.heap.size ≤ gb9924814)); have n3_ := a_ ((by rw [hg]; exact (below_size y0_) : w.heap.size ≤ gb9924814)); clear HB; have HB := n0_; have BK9924814 := n1_; have GW9924814 := n2_; have GE9924814 := n3_; clear n0_ n1_ n2_ n3_; clear hb hbox hg; have hcz9619111_0 : w9056686.cell? ⟨gb9924814, 0, none⟩ = some (.int .i64 0) := (blk_cell BK9924814.out 0).trans rfl; have hcz9619111_1 : w9056686.cell? ⟨gb9924814, 1, none⟩ = some (.slice none 0 0) := (blk_cell BK9924814.out 1).trans rfl; have hfz9619111_0 := blk_frozen BK9924814.out 0; have hfz9619111_1 := blk_frozen BK9924814.out 1) | (have mkq_ := m0_1; clear mkq_; (with_reducible refine gate_dst (N := 2) rfl ?_); refine box_event zr_ (N := 2) zr_ (cs := #[.int .i64 0, .slice none 0 0]) (t := 24) zs_ ?_; intro gb9924814 hg w9056686 hbox hb; have n0_ := a_ (below_step y0_ hb); have n1_ := a_ (hbox); have n2_ := a_ ((by rw [hg]; exact (below_size y0_) : w.heap.size ≤ gb9924814)); have n3_ := a_ ((by rw [hg]; exact (below_size y0_) : w.heap.size ≤ gb9924814)); clear HB; have HB := n0_; have BK9924814 := n1_; have GW9924814 := n2_; have GE9924814 := n3_; clear n0_ n1_ n2_ n3_; clear hb hbox hg) | (have mkq_ := m0_2; clear mkq_; (with_reducible refine gate_callee (f := 33) rfl ?_); refine gc_ 33 11 Try.func33 #[.string a0] ?_; (with_reducible refine (spec_l1Cut.calls k a0 t114 _ _ A5.out).mono ?_); rintro e w9726637 ⟨v9685981, rfl, ho0, hb⟩; refine ⟨_, rfl, ?_⟩; have n0_ := a_ (Kd.R_lower ho0 (below_size y19_)); have n1_ := a_ (blk_below (g := gb9924814) (o := .cells #[.int .i64 0, .slice none 0 0] 24 (0, 0)) (by (with_reducible repeat (first | refine blk_drewN ?_ _ | refine blk_drew ?_ | refine blk_alloc ?_ _)); exact BK9924814.out) hb); have n2_ := a_ (below_step y19_ hb); clear BK9924814; clear HB; have HO9463957 := n0_; have BK9924814 := n1_; have HB := n2_; clear n0_ n1_ n2_; (try clear hb); (try clear hb9330541); (try clear hk); (try clear hi); (try clear ho0); obtain ⟨Ao9692382, co9692382, eo9692382⟩ := Kd.R_slice HO9463957.out; subst eo9692382; have hcz9339755_0 : w9726637.cell? ⟨gb9924814, 0, none⟩ = some (.int .i64 0) := (blk_cell BK9924814.out 0).trans rfl; have hcz9339755_1 : w9726637.cell? ⟨gb9924814, 1, none⟩ = some (.slice none 0 0) := (blk_cell BK9924814.out 1).trans rfl; have hfz9339755_0 := blk_frozen BK9924814.out 0; have hfz9339755_1 := blk_frozen BK9924814.out 1) | (have mkq_ := m0_3; clear mkq_; (with_reducible refine gate_callee (f := 33) rfl ?_); refine gc_ 33 11 Try.func33 #[.string a0] ?_; (with_reducible refine (spec_l1Cut.calls k a0 t114 _ _ A5.out).mono ?_); rintro e w9726637 ⟨v9685981, rfl, ho0, hb⟩; refine ⟨_, rfl, ?_⟩; have n0_ := a_ (Kd.R_lower ho0 (below_size y19_)); have n1_ := a_ (blk_below (g := gb9924814) (o := .cells #[.int .i64 0, .slice none 0 0] 24 (0, 0)) (by (with_reducible repeat (first | refine blk_drewN ?_ _ | refine blk_drew ?_ | refine blk_alloc ?_ _)); exact BK9924814.out) hb); have n2_ := a_ (below_step y19_ hb); clear BK9924814; clear HB; have HO9463957 := n0_; have BK9924814 := n1_; have HB := n2_; clear n0_ n1_ n2_; (try clear hb); (try clear hb9330541); (try clear hk); (try clear hi); (try clear ho0); have hcz9547653_0 : w9726637.cell? ⟨gb9924814, 0, none⟩ = some (.int .i64 0) := (blk_cell BK9924814.out 0).trans rfl; have hcz9547653_1 : w9726637.cell? ⟨gb9924814, 1, none⟩ = some (.slice none 0 0) := (blk_cell BK9924814.out 1).trans rfl; have hfz9547653_0 := blk_frozen BK9924814.out 0; have hfz9547653_1 := blk_frozen BK9924814.out 1))
  first
  | fail_if_success clear m0_4
  |(clear m0_4; refine bodyPost_ret (results_cell_row rfl _ _ gb9924814 24 #[.int .i64 2, .slice none 0 0] (0, 0) _ rfl (by (with_reducible repeat (first | refine blk_drewN ?_ _ | refine blk_drew ?_ | refine blk_alloc ?_ _)); refine blk_put (cs := #[.int .i64 2, .slice none 0 0]) ?_ 1 _ rfl; (with_reducible repeat (first | refine blk_drewN ?_ _ | refine blk_drew ?_ | refine blk_alloc ?_ _)); refine blk_put (cs := #[.int .i64 0, .slice none 0 0]) ?_ 0 _ rfl; (with_reducible repeat (first | refine blk_drewN ?_ _ | refine blk_drew ?_ | refine blk_alloc ?_ _)); exact BK9924814.out) Try.underlying24 rfl y35_) rfl ?_)
  first
  | fail_if_success clear m0_5
  |(clear m0_5; refine bodyPost_ret (results_cell_row rfl _ _ gb9924814 24 #[.int .i64 5, .slice none 0 0] (0, 0) _ rfl (by (with_reducible repeat (first | refine blk_drewN ?_ _ | refine blk_drew ?_ | refine blk_alloc ?_ _)); refine blk_put (cs := #[.int .i64 5, .slice none 0 0]) ?_ 1 _ rfl; (with_reducible repeat (first | refine blk_drewN ?_ _ | refine blk_drew ?_ | refine blk_alloc ?_ _)); refine blk_put (cs := #[.int .i64 0, .slice none 0 0]) ?_ 0 _ rfl; (with_reducible repeat (first | refine blk_drewN ?_ _ | refine blk_drew ?_ | refine blk_alloc ?_ _)); exact BK9924814.out) Try.underlying24 rfl y35_) rfl ?_)
  first
  | fail_if_success clear m0_6
  |(clear m0_6; exact ⟨_, y5_, y21_, y19_⟩)
  first
  | fail_if_success clear m0_7
  |(clear m0_7; refine bodyPost_ret (results_cell_row rfl _ _ gb9924814 24 #[.int .i64 0, .slice Ao9692382 t114.length co9692382] (0, 0) _ rfl (by (with_reducible repeat (first | refine blk_drewN ?_ _ | refine blk_drew ?_ | refine blk_alloc ?_ _)); refine blk_put (cs := #[.int .i64 0, .slice none 0 0]) ?_ 1 _ rfl; (with_reducible repeat (first | refine blk_drewN ?_ _ | refine blk_drew ?_ | refine blk_alloc ?_ _)); refine blk_put (cs := #[.int .i64 0, .slice none 0 0]) ?_ 0 _ rfl; (with_reducible repeat (first | refine blk_drewN ?_ _ | refine blk_drew ?_ | refine blk_alloc ?_ _)); exact BK9924814.out) Try.underlying24 rfl y35_) rfl ?_; exact ⟨_, y5_, by (with_reducible repeat (first | apply Kd.R_alloc | apply Kd.R_drewN | apply Kd.R_drew)); exact Kd.R_mono (Kd.R_far (p := ⟨gb9924814, 1, none⟩) (Kd.R_far (p := ⟨gb9924814, 0, none⟩) (Kd.R_types HO9463957.out BK9924814.out (by decide)) (fun _ hk => hk.2) (.int .i64 0)) (fun _ hk => hk.2) (.slice Ao9692382 t114.length co9692382)) (fun _ hk => trivial), y19_⟩))

/-! ### stringslite_HasPrefix: function 103 -/
def stringslite_HasPrefix.f (a0 : ByteArray) (a1 : ByteArray) : Option (Bool) := if (a0.size : Int) ≥ (a1.size : Int) then (if 0 ≤ (a1.size : Int) then (if (a1.size : Int) ≤ (a0.size : Int) then (some ((a0.extract 0 ((a1.size : Int) : Int).toNat).toList == a1.toList)) else (none)) else (none)) else (some false)
set_option maxHeartbeats 8000000 in
set_option maxRecDepth 100000 in
theorem stringslite_HasPrefix.calls (a0 : ByteArray) (a1 : ByteArray) (r : Bool) (w : World) (h : stringslite_HasPrefix.f a0 a1 = some r) :
    Calls Try.prog 103 #[.string a0, .string a1] w fun e w' => e = .returned (.bool r) ∧ Drawn0 w w' := by
 have H : (if (a0.size : Int) ≥ (a1.size : Int) then (if 0 ≤ (a1.size : Int) then (if (a1.size : Int) ≤ (a0.size : Int) then (some ((a0.extract 0 ((a1.size : Int) : Int).toNat).toList == a1.toList)) else (none)) else (none)) else (some false)) = some r := h; clear h; by_cases c3 : (a0.size : Int) ≥ (a1.size : Int)
 ·rw [if_pos c3] at H; have c3b0 : decide ((a1.size : Int) ≤ (a0.size : Int)) = true := decide_eq_true c3; have c3b1 : decide (a1.size ≤ a0.size) = true := decide_eq_true (Int.ofNat_le.mp c3); clear c3; by_cases c4 : 0 ≤ (a1.size : Int)
  ·rw [if_pos c4] at H; have c4b0 := eq_true c4; have c4b1 : decide (0 ≤ (a1.size : Int)) = true := decide_eq_true c4; clear c4; by_cases c5 : (a1.size : Int) ≤ (a0.size : Int)
   ·rw [if_pos c5] at H; have c5b0 := eq_true c5; have c5b1 : decide ((a1.size : Int) ≤ (a0.size : Int)) = true := decide_eq_true c5; clear c5; obtain rfl := Option.some.inj H; go_enter Try.func103, Try.ntmps103
    go_wp2
    go_ret
    exact ⟨y2_, y4_⟩
   ·rw [if_neg c5] at H; exact absurd H y49_
  ·rw [if_neg c4] at H; exact absurd H y49_
 ·rw [if_neg c3] at H; have c3b0 : decide ((a1.size : Int) ≤ (a0.size : Int)) = false := decide_eq_false c3; have c3b1 : decide (a1.size ≤ a0.size) = false := decide_eq_false (fun h => c3 (Int.ofNat_le.mpr h)); clear c3; obtain rfl := Option.some.inj H; go_enter Try.func103, Try.ntmps103
  go_wp2
  go_ret
  exact ⟨y2_, y4_⟩

/-! ### stringslite_CutPrefix: function 86 -/
def stringslite_CutPrefix.f (a0 : ByteArray) (a1 : ByteArray) : Option (ByteArray × Bool) := (stringslite_HasPrefix.f a0 a1).bind fun t118 => (if t118 = true then (if 0 ≤ (a1.size : Int) then (if (a1.size : Int) ≤ (a0.size : Int) then (some (a0.extract ((a1.size : Int) : Int).toNat a0.size, true)) else (none)) else (none)) else (some (a0, false)))
set_option maxHeartbeats 8000000 in
set_option maxRecDepth 100000 in
theorem stringslite_CutPrefix.calls (a0 : ByteArray) (a1 : ByteArray) (r1 : ByteArray) (r2 : Bool) (w : World) (h : stringslite_CutPrefix.f a0 a1 = some (r1, r2)) :
    Calls Try.prog 86 #[.string a0, .string a1] w fun e w' => e = .returned (.tuple #[.string r1, .bool r2]) ∧ Drawn0 w w' := by
 have H : ((stringslite_HasPrefix.f a0 a1).bind fun t118 => (if t118 = true then (if 0 ≤ (a1.size : Int) then (if (a1.size : Int) ≤ (a0.size : Int) then (some (a0.extract ((a1.size : Int) : Int).toNat a0.size, true)) else (none)) else (none)) else (some (a0, false)))) = some (r1, r2) := h; clear h; replace H := Option.bind_eq_some_iff.mp H; obtain ⟨tx0, Ay0, H⟩ := H; have Ax0 := a_ Ay0; clear Ay0; by_cases cx1 : tx0 = true; subst cx1; rw [if_pos rfl] at H; by_cases cx2 : 0 ≤ (a1.size : Int); rw [if_pos cx2] at H; have cx2b0 := eq_true cx2; have cx2b1 : decide (0 ≤ (a1.size : Int)) = true := decide_eq_true cx2; clear cx2; by_cases cx3 : (a1.size : Int) ≤ (a0.size : Int); rw [if_pos cx3] at H; have cx3b0 := eq_true cx3; have cx3b1 : decide ((a1.size : Int) ≤ (a0.size : Int)) = true := decide_eq_true cx3; clear cx3; simp only [Option.some.injEq, Prod.mk.injEq] at H; obtain ⟨rfl, rfl⟩ := H; rotate_left
 ·rw [if_neg cx3] at H; exact absurd H y49_
 ·rw [if_neg cx2] at H; exact absurd H y49_
 replace cx1 := Bool.eq_false_iff.mpr cx1; subst cx1; rw [if_neg (show ¬ (false = true) by decide)] at H; simp only [Option.some.injEq, Prod.mk.injEq] at H; obtain ⟨rfl, rfl⟩ := H; rotate_left
 all_goals (
  go_enter Try.func86, Try.ntmps86
  go_wp2_with (first | ((with_reducible refine gate_callee (f := 103) rfl ?_); refine gc_ 103 8 Try.func103 #[.string a0, .string a1] ?_; (with_reducible refine (stringslite_HasPrefix.calls a0 a1 _ _ Ax0.out).mono ?_); rintro e w' ⟨rfl, ⟨nd, rfl⟩⟩; refine ⟨_, rfl, ?_⟩))
  go_ret2
  exact ⟨y2_, y4_⟩)

/-! ### strings_CutPrefix: function 69 -/
def strings_CutPrefix.f (a0 : ByteArray) (a1 : ByteArray) : Option (ByteArray × Bool) := (stringslite_CutPrefix.f a0 a1).bind fun bt119 => (some (bt119.1, bt119.2))
set_option maxHeartbeats 8000000 in
set_option maxRecDepth 100000 in
theorem strings_CutPrefix.calls (a0 : ByteArray) (a1 : ByteArray) (r1 : ByteArray) (r2 : Bool) (w : World) (h : strings_CutPrefix.f a0 a1 = some (r1, r2)) :
    Calls Try.prog 69 #[.string a0, .string a1] w fun e w' => e = .returned (.tuple #[.string r1, .bool r2]) ∧ Drawn0 w w' := by
 have H : ((stringslite_CutPrefix.f a0 a1).bind fun bt119 => (some (bt119.1, bt119.2))) = some (r1, r2) := h; clear h; replace H := Option.bind_eq_some_iff.mp H; obtain ⟨⟨t119, t120⟩, A30, H⟩ := H; replace H : (some (t119, t120)) = some (r1, r2) := H; have A3 := a_ A30; clear A30; simp only [Option.some.injEq, Prod.mk.injEq] at H; obtain ⟨rfl, rfl⟩ := H; go_enter Try.func69, Try.ntmps69
 go_wp2_with (first | ((with_reducible refine gate_callee (f := 86) rfl ?_); refine gc_ 86 8 Try.func86 #[.string a0, .string a1] ?_; (with_reducible refine (stringslite_CutPrefix.calls a0 a1 t119 t120 _ A3.out).mono ?_); rintro e w' ⟨rfl, ⟨nd, rfl⟩⟩; refine ⟨_, rfl, ?_⟩))
 go_ret2
 exact ⟨y2_, y4_⟩

/-! ### impl_markEnd: function 34 -/
def impl_markEnd.f (a0 : ByteArray) : Option (Int × Bool) := (strings_CutPrefix.f a0 (⟨#[60, 33, 45, 45]⟩ : ByteArray)).bind fun bt123 => (if bt123.2 = true then ((strings_Index.f bt123.1 (⟨#[45, 45, 62]⟩ : ByteArray)).bind fun t125 => (some (wrap64 ((wrap64 (4 + t125)) + 3), decide (t125 ≥ 0)))) else ((strings_IndexByte.f a0 62).bind fun t126 => (some (wrap64 (t126 + 1), decide (t126 ≥ 0)))))
set_option maxHeartbeats 8000000 in
set_option maxRecDepth 100000 in
theorem impl_markEnd.calls (a0 : ByteArray) (r1 : Int) (r2 : Bool) (w : World) (hM : ML w) (h : impl_markEnd.f a0 = some (r1, r2)) :
    Calls Try.prog 34 #[.string a0] w fun e w' => e = .returned (.tuple #[.int .i64 r1, .bool r2]) ∧ Drawn0 w w' := by
 have H : ((strings_CutPrefix.f a0 (⟨#[60, 33, 45, 45]⟩ : ByteArray)).bind fun bt123 => (if bt123.2 = true then ((strings_Index.f bt123.1 (⟨#[45, 45, 62]⟩ : ByteArray)).bind fun t125 => (some (wrap64 ((wrap64 (4 + t125)) + 3), decide (t125 ≥ 0)))) else ((strings_IndexByte.f a0 62).bind fun t126 => (some (wrap64 (t126 + 1), decide (t126 ≥ 0)))))) = some (r1, r2) := h; clear h; replace H := Option.bind_eq_some_iff.mp H; obtain ⟨⟨t123, t124⟩, A20, H⟩ := H; replace H : (if t124 = true then ((strings_Index.f t123 (⟨#[45, 45, 62]⟩ : ByteArray)).bind fun t125 => (some (wrap64 ((wrap64 (4 + t125)) + 3), decide (t125 ≥ 0)))) else ((strings_IndexByte.f a0 62).bind fun t126 => (some (wrap64 (t126 + 1), decide (t126 ≥ 0))))) = some (r1, r2) := H; have A2 := a_ A20; clear A20; by_cases cx0 : t124 = true; subst cx0; rw [if_pos rfl] at H; replace H := Option.bind_eq_some_iff.mp H; obtain ⟨tx1, Ay1, H⟩ := H; have Ax1 := a_ Ay1; clear Ay1; simp only [Option.some.injEq, Prod.mk.injEq] at H; obtain ⟨rfl, rfl⟩ := H; rotate_left; replace cx0 := Bool.eq_false_iff.mpr cx0; subst cx0; rw [if_neg (show ¬ (false = true) by decide)] at H; replace H := Option.bind_eq_some_iff.mp H; obtain ⟨tx1, Ay1, H⟩ := H; have Ax1 := a_ Ay1; clear Ay1; simp only [Option.some.injEq, Prod.mk.injEq] at H; obtain ⟨rfl, rfl⟩ := H; rotate_left
 all_goals (
  go_enter Try.func34, Try.ntmps34
  go_wp2_with (first | ((with_reducible refine gate_callee (f := 69) rfl ?_); refine gc_ 69 10 Try.func69 #[.string a0, .string (⟨#[60, 33, 45, 45]⟩ : ByteArray)] ?_; (with_reducible refine (strings_CutPrefix.calls a0 (⟨#[60, 33, 45, 45]⟩ : ByteArray) t123 _ _ A2.out).mono ?_); rintro e w' ⟨rfl, ⟨nd, rfl⟩⟩; refine ⟨_, rfl, ?_⟩) | ((with_reducible refine gate_callee (f := 70) rfl ?_); refine gc_ 70 15 Try.func70 #[.string t123, .string (⟨#[45, 45, 62]⟩ : ByteArray)] ?_; (with_reducible refine (strings_Index.calls t123 (⟨#[45, 45, 62]⟩ : ByteArray) tx1 _ ?sideM Ax1.out).mono ?_); (case sideM => (repeat (first | exact hM | refine ML_drewN ?_ _ | refine ML_drew ?_ | refine ML_alloc ?_ _))); rintro e w' ⟨rfl, ⟨nd, rfl⟩⟩; refine ⟨_, rfl, ?_⟩) | ((with_reducible refine gate_callee (f := 35) rfl ?_); refine gc_ 35 22 Try.func35 #[.string a0, .int .u8 62] ?_; (with_reducible refine (strings_IndexByte.calls a0 62 tx1 _ Ax1.out).mono ?_); rintro e w' ⟨rfl, ⟨nd, rfl⟩⟩; refine ⟨_, rfl, ?_⟩))
  go_ret2
  exact ⟨y2_, y4_⟩)

/-! ### strings_Contains: function 36 -/
def strings_Contains.f (a0 : ByteArray) (a1 : ByteArray) : Option (Bool) := (strings_Index.f a0 a1).bind fun t127 => (some (decide (t127 ≥ 0)))
set_option maxHeartbeats 8000000 in
set_option maxRecDepth 100000 in
theorem strings_Contains.calls (a0 : ByteArray) (a1 : ByteArray) (r : Bool) (w : World) (hM : ML w) (h : strings_Contains.f a0 a1 = some r) :
    Calls Try.prog 36 #[.string a0, .string a1] w fun e w' => e = .returned (.bool r) ∧ Drawn0 w w' := by
 have H : ((strings_Index.f a0 a1).bind fun t127 => (some (decide (t127 ≥ 0)))) = some r := h; clear h; replace H := Option.bind_eq_some_iff.mp H; obtain ⟨t127, A30, H⟩ := H; have A3 := a_ A30; clear A30; obtain rfl := Option.some.inj H; go_enter Try.func36, Try.ntmps36
 go_wp2_with (first | ((with_reducible refine gate_callee (f := 70) rfl ?_); refine gc_ 70 7 Try.func70 #[.string a0, .string a1] ?_; (with_reducible refine (strings_Index.calls a0 a1 t127 _ ?sideM A3.out).mono ?_); (case sideM => (repeat (first | exact hM | refine ML_drewN ?_ _ | refine ML_drew ?_ | refine ML_alloc ?_ _))); rintro e w' ⟨rfl, ⟨nd, rfl⟩⟩; refine ⟨_, rfl, ?_⟩))
 go_ret
 exact ⟨y2_, y4_⟩

end Go.Proofs.Ytmppibhdnajjjaa.C
