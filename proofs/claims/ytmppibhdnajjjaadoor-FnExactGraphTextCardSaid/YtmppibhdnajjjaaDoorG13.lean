-- Written by a program of this session's own (xp.py) for this seat.
import Derived.Test.YtmppibhdnajjjaaDoorGZ
import Derived.Test.YtmppibhdnajjjaaDoorGH
import Derived.Test.YtmppibhdnajjjaaDoorG0
namespace Go.Proofs.YtmppibhdnajjjaaDoor.G
open Go.RowKit Go.Proofs.YtmppibhdnajjjaaDoorW.PrintWords Go.Proofs.YtmppibhdnajjjaaDoorW.PrintLast Go.Proofs.YtmppibhdnajjjaaDoorW.PrintMore
attribute [local go_sem] Instr.field asAgg
attribute [local go_sem] max2_int min2_int max_two min_two max_three min_three max_four min_four   -- for this text's walks alone
set_option linter.unusedVariables false
set_option linter.unusedSimpArgs false

-- NOT PRINTED: function 111 (abi_NoEscape)

-- NOT PRINTED: function 89 (strings_Builder_copyCheck)

-- NOT PRINTED: function 59 (strings_Builder_WriteString)

-- NOT PRINTED: function 120 (strconv_small)

-- NOT PRINTED: function 135 (strconv_log10Pow2)

-- NOT PRINTED: function 136 (bits_Len64)

-- NOT PRINTED: function 137 (strconv_bool2_int)

-- NOT PRINTED: function 121 (strconv_numDigits)

-- NOT PRINTED: function 122 (strconv_formatBase10)

-- NOT PRINTED: function 138 (strconv_isPowerOfTwo)

-- NOT PRINTED: function 144 (bits_TrailingZeros32)

-- NOT PRINTED: function 145 (bits_TrailingZeros64)

-- NOT PRINTED: function 139 (bits_TrailingZeros)

-- NOT PRINTED: function 123 (strconv_formatBits)

-- NOT PRINTED: function 112 (strconv_FormatInt_112)

-- by hand: function 90 (strconv_FormatInt_90)

/-! ### impl_decimal: function 60 -/
def impl_decimal.f (a0 : Int) : Option (ByteArray) := (strconv_FormatInt_90.f a0 10).bind fun t291 => (some t291)
set_option maxHeartbeats 8000000 in
set_option maxRecDepth 100000 in
theorem impl_decimal.calls (a0 : Int) (r : ByteArray) (w : World) (hM : ML w) (h : impl_decimal.f a0 = some r) :
    Calls Tryd.prog 60 #[.int .i64 a0] w fun e w' => e = .returned (.string r) ∧ Below w.heap.size w w' := by
 have HB := a_ (Below.refl w.heap.size w); have H : ((strconv_FormatInt_90.f a0 10).bind fun t291 => (some t291)) = some r := h; clear h; replace H := Option.bind_eq_some_iff.mp H; obtain ⟨t291, A20, H⟩ := H; have A2 := a_ A20; clear A20; obtain rfl := Option.some.inj H; go_enter Tryd.func60, Tryd.ntmps60
 go_wp2_with (first | ((with_reducible refine gate_callee (f := 90) rfl ?_); refine gc_ 90 4 Tryd.func90 #[.int .i64 a0, .int .i64 10] ?_; (with_reducible refine (strconv_FormatInt_90.calls a0 10 t291 _ ?sideM A2.out).mono ?_); (case sideM => first | (with_reducible exact hM) | (exact ML_below hM y0_) | (repeat (first | exact hM | refine ML_drewN ?_ _ | refine ML_drew ?_ | refine ML_alloc ?_ _))); rintro e w3 ⟨rfl, hb⟩; refine ⟨_, rfl, ?_⟩; have n0_ := a_ (below_step y0_ hb); clear HB; have HB := n0_; clear n0_; (try clear hb); (try clear hb2); (try clear hk); (try clear hi)))
 go_ret
 exact ⟨y2_, y0_⟩

-- NOT PRINTED: function 91 (impl_Graph_flows)

-- NOT PRINTED: function 92 (impl_Graph_flowsFrom_1)

/-! ### impl_Graph_flowsFrom_1: function 92 -/
def impl_Graph_flowsFrom_1.f (a0_0 : Int) (a0_1 : Int) (l0_2 : List (S45)) (a1 : Int) : Option (Bool) := some (a0_0 == (rd [a1] 0))
set_option maxHeartbeats 8000000 in
set_option maxRecDepth 100000 in
theorem impl_Graph_flowsFrom_1.calls (a0_0 : Int) (a0_1 : Int) (A0_2 : Option Addr) (c0_2 : Nat) (l0_2 : List (S45)) (adp1 : Addr) (a1 : Int) (r : Bool) (w : World) (hr0_2 : Kd.C k45 w A0_2 l0_2.length l0_2) (hc0_2 : l0_2.length ≤ c0_2) (hr1 : Kd.C (Kd.int .i64) w (some adp1) 1 [a1]) (h : impl_Graph_flowsFrom_1.f a0_0 a0_1 l0_2 a1 = some r) :
    Calls Tryd.prog 92 #[.agg #[.int .i64 a0_0, .int .i64 a0_1, .slice A0_2 l0_2.length c0_2], .pointer (some adp1)] w fun e w' => e = .returned (.bool r) ∧ Below w.heap.size w w' := by
 have hu97 := Tryd.underlying97; have HR0_2 := a_ hr0_2; have HC0_2 := a_ hc0_2; clear hr0_2 hc0_2; have HR1 := a_ hr1; clear hr1; have HB := a_ (Below.refl w.heap.size w); have H : (some (a0_0 == (rd [a1] 0))) = some r := h; clear h; obtain rfl := Option.some.inj H; go_enter Tryd.func92, Tryd.ntmps92
 go_wp2_with (first | ((with_reducible refine gate_dst (N := 2) rfl ?_); refine box_event zr_ (N := 2) zr_ (cs := #[.int .i64 a0_0, .int .i64 a0_1, .slice A0_2 l0_2.length c0_2]) (t := 97) zs_ ?_; intro gb293 hg w3 hbox hb; have n0_ := a_ (below_step y0_ hb); have n1_ := a_ (hbox); have n2_ := a_ ((by rw [hg]; exact (below_size y0_) : w.heap.size ≤ gb293)); have n3_ := a_ ((by rw [hg]; exact (below_size y0_) : w.heap.size ≤ gb293)); clear HB; have HB := n0_; have BK293 := n1_; have GW293 := n2_; have GE293 := n3_; clear n0_ n1_ n2_ n3_; clear hb hbox hg; have hcz4_0 : w3.cell? ⟨gb293, 0, none⟩ = some (.int .i64 a0_0) := (blk_cell BK293.out 0).trans rfl; have hcz4_1 : w3.cell? ⟨gb293, 1, none⟩ = some (.int .i64 a0_1) := (blk_cell BK293.out 1).trans rfl; have hcz4_2 : w3.cell? ⟨gb293, 2, none⟩ = some (.slice A0_2 l0_2.length c0_2) := (blk_cell BK293.out 2).trans rfl; have hfz4_0 := blk_frozen BK293.out 0; have hfz4_1 := blk_frozen BK293.out 1; have hfz4_2 := blk_frozen BK293.out 2; have p294 : 0 ≤ (0 : Int) := y104_; have q294 : 0 < ([a1].length : Int) := y99_; obtain ⟨ad294, e294, hx294_0⟩ := Kd.at_int HR1.out 0 p294 q294; obtain rfl : adp1 = ad294 := (by injection e294); have qi294 : (0 < [a1].length) = True := eq_true y104_; (try rw [show ((0 : Int)).toNat = 0 from rfl] at hx294_0); (try rw [Addr.add_zero'] at hx294_0); replace hx294_0 := cT_ HB.out hx294_0; replace p294 := eq_true p294; replace q294 := eq_true q294))
 go_ret
 exact ⟨y2_, y51_⟩

/-! ### impl_Graph_flows__impl_Graph_flowsFrom_1: function 177 -/
def impl_Graph_flows__impl_Graph_flowsFrom_1.l0 : Nat → List Int → List (S97) → Int → Int → Int → Option (List Int)
  | 0, _, _, _, _, _ => none
  | k + 1, x5, x10, x11, x12, x901 => if x12 < x11 then (if 0 ≤ x12 then (if x12 < (x10.length : Int) then ((impl_Graph_flowsFrom_1.f ((rd_T97 x10 x12).f0) ((rd_T97 x10 x12).f1) ((rd_T97 x10 x12).f2) x901).bind fun t301 => (if t301 = true then (if x5.length < 17592186044416 then (impl_Graph_flows__impl_Graph_flowsFrom_1.l0 k (x5 ++ [x12]) x10 x11 (wrap64 (x12 + 1)) x901) else (none)) else (impl_Graph_flows__impl_Graph_flowsFrom_1.l0 k x5 x10 x11 (wrap64 (x12 + 1)) x901))) else (none)) else (none)) else (some x5)
def impl_Graph_flows__impl_Graph_flowsFrom_1.f (k : Nat) (l0_0 : List (S94)) (l0_1 : List (S97)) (a1 : Int) : Option (List Int) := impl_Graph_flows__impl_Graph_flowsFrom_1.l0 k (([] : List Int)) l0_1 (l0_1.length : Int) 0 a1
theorem impl_Graph_flows__impl_Graph_flowsFrom_1.mono_l : ∀ k, (∀ y0 y1 y2 y3 y4, LeO (impl_Graph_flows__impl_Graph_flowsFrom_1.l0 k y0 y1 y2 y3 y4) (impl_Graph_flows__impl_Graph_flowsFrom_1.l0 (k + 1) y0 y1 y2 y3 y4))
  | 0 => fun _ _ _ _ _ r h => by simp [impl_Graph_flows__impl_Graph_flowsFrom_1.l0] at h
  | k + 1 => by
    have ih0 := impl_Graph_flows__impl_Graph_flowsFrom_1.mono_l k
    · intro y0 y1 y2 y3 y4
      unfold impl_Graph_flows__impl_Graph_flowsFrom_1.l0
      repeat' (with_reducible first | exact ih0 _ _ _ _ _ | exact LeO.refl _ | exact LeO.none _ | refine LeO.ite ?_ ?_ | refine LeO.bind ?_ (fun _ => ?_))
theorem impl_Graph_flows__impl_Graph_flowsFrom_1.mono : ∀ a0 a1 a2 k, LeO (impl_Graph_flows__impl_Graph_flowsFrom_1.f k a0 a1 a2) (impl_Graph_flows__impl_Graph_flowsFrom_1.f (k + 1) a0 a1 a2) := by
  intro a0 a1 a2 k
  have ih0 := impl_Graph_flows__impl_Graph_flowsFrom_1.mono_l k
  unfold impl_Graph_flows__impl_Graph_flowsFrom_1.f
  repeat' (with_reducible first | exact ih0 _ _ _ _ _ | exact LeO.refl _ | exact LeO.none _ | refine LeO.ite ?_ ?_ | refine LeO.bind ?_ (fun _ => ?_))
set_option maxHeartbeats 8000000 in
set_option maxRecDepth 100000 in
theorem impl_Graph_flows__impl_Graph_flowsFrom_1.calls (k : Nat) (A0_0 : Option Addr) (c0_0 : Nat) (l0_0 : List (S94)) (A0_1 : Option Addr) (c0_1 : Nat) (l0_1 : List (S97)) (adp1 : Addr) (a1 : Int) (r : List Int) (w : World) (hr0_0 : Kd.C k94 w A0_0 l0_0.length l0_0) (hc0_0 : l0_0.length ≤ c0_0) (hr0_1 : Kd.C k97 w A0_1 l0_1.length l0_1) (hc0_1 : l0_1.length ≤ c0_1) (hr1 : Kd.C (Kd.int .i64) w (some adp1) 1 [a1]) (h : impl_Graph_flows__impl_Graph_flowsFrom_1.f k l0_0 l0_1 a1 = some r) :
    Calls Tryd.prog 91 #[.agg #[.slice A0_0 l0_0.length c0_0, .slice A0_1 l0_1.length c0_1], .func (.func 92) #[] #[.pointer (some adp1)]] w fun e w' => ∃ v0_ : Value, e = .returned (v0_) ∧ Kd.R (Kd.int .i64) 2 w' w.heap.size (fun _ => True) v0_ r ∧ Below w.heap.size w w' := by
 have hu55 := Tryd.underlying55; have hu97 := Tryd.underlying97; have HR0_0 := a_ hr0_0; have HC0_0 := a_ hc0_0; clear hr0_0 hc0_0; have HR0_1 := a_ hr0_1; have HC0_1 := a_ hc0_1; clear hr0_1 hc0_1; have HR1 := a_ hr1; clear hr1; have HB := a_ (Below.refl w.heap.size w); have H : (impl_Graph_flows__impl_Graph_flowsFrom_1.l0 k (([] : List Int)) l0_1 (l0_1.length : Int) 0 a1) = some r := h; clear h; obtain ⟨y296, hy_⟩ : ∃ y_ : List Int, y_ = (([] : List Int)) := ⟨_, rfl⟩; replace H : (impl_Graph_flows__impl_Graph_flowsFrom_1.l0 k y296 l0_1 (l0_1.length : Int) 0 a1) = some r := z0_; have Ny296 := a_ hy_; clear hy_; have H' := a_ H; clear H; go_enter Tryd.func91, Tryd.ntmps91
 go_wp2_with (first | ((with_reducible refine gate_dst (N := 2) rfl ?_); refine box_event zr_ (N := 2) zr_ (cs := #[.slice A0_0 l0_0.length c0_0, .slice A0_1 l0_1.length c0_1]) (t := 55) zs_ ?_; intro gb295 hg w3 hbox hb; have n0_ := a_ (below_step y0_ hb); have n1_ := a_ (hbox); have n2_ := a_ ((by rw [hg]; exact (below_size y0_) : w.heap.size ≤ gb295)); have n3_ := a_ ((by rw [hg]; exact (below_size y0_) : w.heap.size ≤ gb295)); clear HB; have HB := n0_; have BK295 := n1_; have GW295 := n2_; have GE295 := n3_; clear n0_ n1_ n2_ n3_; clear hb hbox hg) | ((with_reducible refine gate_dst (N := 8) rfl ?_); refine Kd.R_lit (Kd.int .i64) _ 2 ?hg (N := 8) ?hd (xs := ([] : List Int)) (inner := []) (ok := fun _ => True) (okp := fun _ => True) ?hr ?hp (fun _ hk => hk) trivial (Below.refl _ _) (Nat.le_refl _) y99_ ?_; (case hd => rfl); (case hg => rfl); (case hr => first | (go_simp; done) | (go_simp; rfl)); (case hp => exact (Reps.none _ _)); intro v297 w4 ho5 hb hg_ hnew_; clear hg_ hnew_; (first | rw [← Ny296.out] at ho5 | (simp only [Int.reduceToNat] at ho5; rw [← Ny296.out] at ho5)); have n0_ := a_ (Kd.R_lower ho5 (below_size y27_)); have n1_ := a_ (blk_below (g := gb295) (o := .cells #[.slice A0_0 l0_0.length c0_0, .slice A0_1 l0_1.length c0_1] 55 (0, 0)) y31_ hb); have n2_ := a_ (below_step y27_ hb); clear BK295; clear HB; have HO298 := n0_; have BK295 := n1_; have HB := n2_; clear n0_ n1_ n2_; clear hb ho5; have hcz6_0 : w4.cell? ⟨gb295, 0, none⟩ = some (.slice A0_0 l0_0.length c0_0) := (blk_cell BK295.out 0).trans rfl; have hcz6_1 : w4.cell? ⟨gb295, 1, none⟩ = some (.slice A0_1 l0_1.length c0_1) := (blk_cell BK295.out 1).trans rfl; have hfz6_0 := blk_frozen BK295.out 0; have hfz6_1 := blk_frozen BK295.out 1))
 go_loopg [5, 12] k (fun kq v5 v12 w' => ∃ (x5_1 : List Int) (x12_1 : Int), v12 = .int .i64 x12_1 ∧ Aside0 (impl_Graph_flows__impl_Graph_flowsFrom_1.l0 kq x5_1 l0_1 (l0_1.length : Int) x12_1 a1 = some r) ∧ Aside0 (kq ≤ k) ∧ Aside0 (Kd.R (Kd.int .i64) 2 w' w.heap.size (fun _ => True) v5 x5_1) ∧ Aside0 (w'.heap[gb295]? = some (.cells #[(.slice A0_0 l0_0.length c0_0), (.slice A0_1 l0_1.length c0_1)] 55 (0, 0))) ∧ Aside0 (Below w.heap.size w w'))
 case atStart => exact ⟨(y296), (0), y1_, H', ⟨Nat.le_refl _⟩, ⟨by (with_reducible repeat (first | apply Kd.R_alloc | apply Kd.R_drewN | apply Kd.R_drew)); exact HO298.out⟩, ⟨y31_⟩, ⟨y27_⟩⟩
 case round =>
  clear H'; (try clear hcz6_0); (try clear hcz6_1); (try clear hfz6_0); (try clear hfz6_1); obtain ⟨x5_1, x12_1, rfl, HA, HK1, HO_5, BK295, HB⟩ := hrel; cases gk with
  | zero => exact absurd HA.out (by simp [impl_Graph_flows__impl_Graph_flowsFrom_1.l0])
  | succ k1 =>
   have H := HA.out; clear HA; simp only [impl_Graph_flows__impl_Graph_flowsFrom_1.l0] at H; by_cases cx0 : x12_1 < (l0_1.length : Int); rw [if_pos cx0] at H; have cx0b0 : decide (x12_1 < (l0_1.length : Int)) = true := decide_eq_true cx0; clear cx0; by_cases cx1 : 0 ≤ x12_1; rw [if_pos cx1] at H; have cx1b0 : decide (0 ≤ x12_1) = true := decide_eq_true cx1; clear cx1; by_cases cx2 : x12_1 < (l0_1.length : Int); rw [if_pos cx2] at H; have cx2b0 : decide (x12_1 < (l0_1.length : Int)) = true := decide_eq_true cx2; clear cx2; replace H := Option.bind_eq_some_iff.mp H; obtain ⟨tx3, Ay3, H⟩ := H; have Ax3 := a_ Ay3; clear Ay3; by_cases cx4 : tx3 = true; subst cx4; rw [if_pos rfl] at H; by_cases cx5 : x5_1.length < 17592186044416; rw [if_pos cx5] at H; have LMcx5 := a_ cx5; clear cx5; obtain ⟨y302, hy_⟩ : ∃ y_ : List Int, y_ = (x5_1 ++ [x12_1]) := ⟨_, rfl⟩; replace H : (impl_Graph_flows__impl_Graph_flowsFrom_1.l0 k1 y302 l0_1 (l0_1.length : Int) (wrap64 (x12_1 + 1)) a1) = some r := z0_; have Ny302 := a_ hy_; clear hy_; have H' := a_ H; clear H; have m0_0 := t_; have m0_1 := t_; rotate_left
   ·rw [if_neg cx5] at H; exact absurd H y99_
   replace cx4 := Bool.eq_false_iff.mpr cx4; subst cx4; rw [if_neg (show ¬ (false = true) by decide)] at H; have H' := a_ H; clear H; have m0_0 := t_; have m0_2 := t_; rotate_left
   ·rw [if_neg cx2] at H; exact absurd H y99_
   ·rw [if_neg cx1] at H; exact absurd H y99_
   rw [if_neg cx0] at H; have cx0b0 : decide (x12_1 < (l0_1.length : Int)) = false := decide_eq_false cx0; clear cx0; obtain rfl := Option.some.inj H; have m0_3 := t_; rotate_left
   all_goals (
    first
    | fail_if_success clear m0_0
    |(clear m0_0; have p9922068 : 0 ≤ (x12_1 : Int) := of_decide_eq_true y3_; have q9922068 : x12_1 < (l0_1.length : Int) := of_decide_eq_true y3_; obtain ⟨ad9922068, A299_2, c299_2, e9922068, hx9922068_0, hx9922068_1, hx9922068_2, hl9922068_2, hi299_2⟩ := at_T97 HR0_1.out x12_1 p9922068 q9922068; cases e9922068; replace hx9922068_0 := cT_ HB.out hx9922068_0; replace hx9922068_1 := cT_ HB.out hx9922068_1; replace hx9922068_2 := cT_ HB.out hx9922068_2; have HR299_2 := a_ hi299_2; have HC299_2 := a_ hl9922068_2; clear hi299_2 hl9922068_2; replace p9922068 := eq_true p9922068; replace q9922068 := eq_true q9922068
      go_wp2_with (first | ((with_reducible refine gate_dst (N := 7) rfl ?_); refine box_event zr_ (N := 7) zr_ (cs := #[.int .i64 0, .int .i64 0, .slice none 0 0]) (t := 97) zs_ ?_; intro gb9914063 hg w9203841 hbox hb; have n0_ := a_ (Kd.R_below y38_ hb); have n1_ := a_ (blk_below (g := gb295) (o := .cells #[.slice A0_0 l0_0.length c0_0, .slice (some ad9922068) l0_1.length c0_1] 55 (0, 0)) y31_ hb); have n2_ := a_ (below_step y27_ hb); have n3_ := a_ (hbox); have n4_ := a_ ((by rw [hg]; exact (below_size y27_) : w.heap.size ≤ gb9914063)); have n5_ := a_ ((by rw [hg]; exact (below_size y27_) : w.heap.size ≤ gb9914063)); have n6_ := a_ ((by rw [hg]; exact Nat.ne_of_lt (blk_lt (g := gb295) (o := .cells #[.slice A0_0 l0_0.length c0_0, .slice (some ad9922068) l0_1.length c0_1] 55 (0, 0)) y31_) : gb295 ≠ gb9914063)); have n7_ := a_ ((by rw [hg]; exact Nat.ne_of_gt (blk_lt (g := gb295) (o := .cells #[.slice A0_0 l0_0.length c0_0, .slice (some ad9922068) l0_1.length c0_1] 55 (0, 0)) y31_) : gb9914063 ≠ gb295)); clear HO_5; clear BK295; clear HB; have HO_5 := n0_; have BK295 := n1_; have HB := n2_; have BK9914063 := n3_; have GW9914063 := n4_; have GE9914063 := n5_; have NB295_300 := n6_; have NB300_295 := n7_; clear n0_ n1_ n2_ n3_ n4_ n5_ n6_ n7_; clear hb hbox hg; have hnb9567782 := NB300_295.out; have hnc9567782 := NB295_300.out; have hcz9721888_0 : w9203841.cell? ⟨gb9914063, 0, none⟩ = some (.int .i64 0) := (blk_cell BK9914063.out 0).trans rfl; have hcz9721888_1 : w9203841.cell? ⟨gb9914063, 1, none⟩ = some (.int .i64 0) := (blk_cell BK9914063.out 1).trans rfl; have hcz9721888_2 : w9203841.cell? ⟨gb9914063, 2, none⟩ = some (.slice none 0 0) := (blk_cell BK9914063.out 2).trans rfl; have hfz9721888_0 := blk_frozen BK9914063.out 0; have hfz9721888_1 := blk_frozen BK9914063.out 1; have hfz9721888_2 := blk_frozen BK9914063.out 2) | ((with_reducible refine gate_dyn (t := 17) rfl ?_); refine goesC_ (some 19) rfl rfl Tryd.func92 y29_ rfl #[.agg #[.int .i64 ((rd_T97 l0_1 x12_1).f0), .int .i64 ((rd_T97 l0_1 x12_1).f1), .slice A299_2 ((rd_T97 l0_1 x12_1).f2).length c299_2]] #[.pointer (some adp1)] #[.agg #[.int .i64 ((rd_T97 l0_1 x12_1).f0), .int .i64 ((rd_T97 l0_1 x12_1).f1), .slice A299_2 ((rd_T97 l0_1 x12_1).f2).length c299_2], .pointer (some adp1)] rfl (by (try simp only [List.map_toArray, List.map_cons, List.map_nil]); first | done | rfl) rfl ?_; (with_reducible refine (impl_Graph_flowsFrom_1.calls ((rd_T97 l0_1 x12_1).f0) ((rd_T97 l0_1 x12_1).f1) _ _ ((rd_T97 l0_1 x12_1).f2) _ a1 _ _ ?side1 ?side2 ?side3 Ax3.out).mono ?_); (case side1 => exact Kd.C_below HR299_2.out y19_); (case side2 => exact HC299_2.out); (case side3 => exact Kd.C_below HR1.out y19_); rintro e w9605610 ⟨rfl, hb⟩; refine ⟨_, rfl, ?_⟩; have n0_ := a_ (Kd.R_below (by (with_reducible repeat (first | apply Kd.R_alloc | apply Kd.R_drewN | apply Kd.R_drew)); exact (Kd.R_mono (Kd.R_far (p := ⟨gb9914063, 2, none⟩) (Kd.R_far (p := ⟨gb9914063, 1, none⟩) (Kd.R_far (p := ⟨gb9914063, 0, none⟩) (Kd.R_types HO_5.out BK9914063.out y96_) (fun _ hk => hk.2) (.int .i64 ((rd_T97 l0_1 x12_1).f0))) (fun _ hk => hk.2) (.int .i64 ((rd_T97 l0_1 x12_1).f1))) (fun _ hk => hk.2) (.slice A299_2 ((rd_T97 l0_1 x12_1).f2).length c299_2)) (fun _ h_ => h_.1))) hb); have n1_ := a_ (blk_below (g := gb295) (o := .cells #[.slice A0_0 l0_0.length c0_0, .slice (some ad9922068) l0_1.length c0_1] 55 (0, 0)) (by (with_reducible repeat (first | refine blk_drewN ?_ _ | refine blk_drew ?_ | refine blk_alloc ?_ _)); refine blk_far ?_ NB295_300.out _; (with_reducible repeat (first | refine blk_drewN ?_ _ | refine blk_drew ?_ | refine blk_alloc ?_ _)); refine blk_far ?_ NB295_300.out _; (with_reducible repeat (first | refine blk_drewN ?_ _ | refine blk_drew ?_ | refine blk_alloc ?_ _)); refine blk_far ?_ NB295_300.out _; (with_reducible repeat (first | refine blk_drewN ?_ _ | refine blk_drew ?_ | refine blk_alloc ?_ _)); exact BK295.out) hb); have n2_ := a_ (blk_below (g := gb9914063) (o := .cells #[.int .i64 ((rd_T97 l0_1 x12_1).f0), .int .i64 ((rd_T97 l0_1 x12_1).f1), .slice A299_2 ((rd_T97 l0_1 x12_1).f2).length c299_2] 97 (0, 0)) (by (with_reducible repeat (first | refine blk_drewN ?_ _ | refine blk_drew ?_ | refine blk_alloc ?_ _)); refine blk_put (cs := #[.int .i64 ((rd_T97 l0_1 x12_1).f0), .int .i64 ((rd_T97 l0_1 x12_1).f1), .slice none 0 0]) ?_ 2 _ rfl; (with_reducible repeat (first | refine blk_drewN ?_ _ | refine blk_drew ?_ | refine blk_alloc ?_ _)); refine blk_put (cs := #[.int .i64 ((rd_T97 l0_1 x12_1).f0), .int .i64 0, .slice none 0 0]) ?_ 1 _ rfl; (with_reducible repeat (first | refine blk_drewN ?_ _ | refine blk_drew ?_ | refine blk_alloc ?_ _)); refine blk_put (cs := #[.int .i64 0, .int .i64 0, .slice none 0 0]) ?_ 0 _ rfl; (with_reducible repeat (first | refine blk_drewN ?_ _ | refine blk_drew ?_ | refine blk_alloc ?_ _)); exact BK9914063.out) hb); have n3_ := a_ (below_step y19_ hb); clear HO_5; clear BK295; clear BK9914063; clear HB; have HO_5 := n0_; have BK295 := n1_; have BK9914063 := n2_; have HB := n3_; clear n0_ n1_ n2_ n3_; (try clear hb); (try clear hb9720333); (try clear hk); (try clear hi)) | ((with_reducible refine gate_builtin (b := .append) (xs := #[.tmp 20, .tmp 22]) rfl ?_); at_builtin; refine Kd.R_append (Kd.int .i64) (w0 := w) w.heap.size rfl (.tmp 20) (.tmp 22) 85 2 (.int .i64 0) 8 rfl Tryd.underlying85 info2 rfl y96_ y104_ u5 x5_1 x12_1 [.int .i64 x12_1] (fun _ => True) (fun _ => False) rfl rfl ?aP (fun _ hk => hk.elim) ?aF ?aO ?aB ?aS ?aL ?_; (case aP => exact rfl); (case aB => exact y19_); (case aF => exact (fun _ _ => trivial)); (case aO => exact y38_); (case aS => exact (below_size y19_)); (case aL => have := LMcx5.out; omega); intro v9297878 w9645274 ho hb hg hat; rw [← Ny302.out] at ho; have n0_ := a_ (blk_grown (g := gb295) (o := .cells #[.slice A0_0 l0_0.length c0_0, .slice (some ad9922068) l0_1.length c0_1] 55 (0, 0)) y31_ hg (Kd.R_ne HO_5.out BK295.out y96_)); have n1_ := a_ (blk_grown (g := gb9914063) (o := .cells #[.int .i64 ((rd_T97 l0_1 x12_1).f0), .int .i64 ((rd_T97 l0_1 x12_1).f1), .slice A299_2 ((rd_T97 l0_1 x12_1).f2).length c299_2] 97 (0, 0)) (by (with_reducible repeat (first | refine blk_drewN ?_ _ | refine blk_drew ?_ | refine blk_alloc ?_ _)); exact BK9914063.out) hg (Kd.R_ne HO_5.out BK9914063.out y96_)); have n2_ := a_ (hb); have n3_ := a_ (ho); clear BK295; clear BK9914063; clear HB; clear HO_5; have BK295 := n0_; have BK9914063 := n1_; have HB := n2_; have HO9453911 := n3_; clear n0_ n1_ n2_ n3_; clear ho hb hg hat))
      go_roundg k1
      case measure => have := HK1.out; omega)
    first
    | fail_if_success clear m0_1
    |(clear m0_1
      case rel => exact ⟨(y302), (wrap64 (x12_1 + 1)), y1_, H', ⟨y92_⟩, ⟨by (with_reducible repeat (first | apply Kd.R_alloc | apply Kd.R_drewN | apply Kd.R_drew)); exact HO9453911.out⟩, ⟨y31_⟩, ⟨y19_⟩⟩)
    first
    | fail_if_success clear m0_2
    |(clear m0_2
      case rel => exact ⟨(x5_1), (wrap64 (x12_1 + 1)), y1_, H', ⟨y92_⟩, ⟨y38_⟩, ⟨y31_⟩, ⟨y19_⟩⟩)
    first
    | fail_if_success clear m0_3
    |(clear m0_3; go_wp2
      go_ret
      exact ⟨_, y2_, y38_, y27_⟩))

/-! ### impl_Graph_flowsFrom: function 61 -/
def impl_Graph_flowsFrom.f (k : Nat) (l0_0 : List (S94)) (l0_1 : List (S97)) (a1 : Int) : Option (List Int) := (impl_Graph_flows__impl_Graph_flowsFrom_1.f k l0_0 l0_1 a1).bind fun t295 => (some t295)
theorem impl_Graph_flowsFrom.mono : ∀ a0 a1 a2 k, LeO (impl_Graph_flowsFrom.f k a0 a1 a2) (impl_Graph_flowsFrom.f (k + 1) a0 a1 a2) := by
  intro a0 a1 a2 k
  unfold impl_Graph_flowsFrom.f
  repeat' (with_reducible first | exact impl_Graph_flows__impl_Graph_flowsFrom_1.mono _ _ _ _ | exact LeO.refl _ | exact LeO.none _ | refine LeO.ite ?_ ?_ | refine LeO.bind ?_ (fun _ => ?_))
set_option maxHeartbeats 8000000 in
set_option maxRecDepth 100000 in
theorem impl_Graph_flowsFrom.calls (k : Nat) (A0_0 : Option Addr) (c0_0 : Nat) (l0_0 : List (S94)) (A0_1 : Option Addr) (c0_1 : Nat) (l0_1 : List (S97)) (a1 : Int) (r : List Int) (w : World) (hr0_0 : Kd.C k94 w A0_0 l0_0.length l0_0) (hc0_0 : l0_0.length ≤ c0_0) (hr0_1 : Kd.C k97 w A0_1 l0_1.length l0_1) (hc0_1 : l0_1.length ≤ c0_1) (h : impl_Graph_flowsFrom.f k l0_0 l0_1 a1 = some r) :
    Calls Tryd.prog 61 #[.agg #[.slice A0_0 l0_0.length c0_0, .slice A0_1 l0_1.length c0_1], .int .i64 a1] w fun e w' => ∃ v0_ : Value, e = .returned (v0_) ∧ Kd.R (Kd.int .i64) 2 w' w.heap.size (fun _ => True) v0_ r ∧ Below w.heap.size w w' := by
 have hu55 := Tryd.underlying55; have HR0_0 := a_ hr0_0; have HC0_0 := a_ hc0_0; clear hr0_0 hc0_0; have HR0_1 := a_ hr0_1; have HC0_1 := a_ hc0_1; clear hr0_1 hc0_1; have HB := a_ (Below.refl w.heap.size w); have H : ((impl_Graph_flows__impl_Graph_flowsFrom_1.f k l0_0 l0_1 a1).bind fun t295 => (some t295)) = some r := h; clear h; replace H := Option.bind_eq_some_iff.mp H; obtain ⟨t295, A30, H⟩ := H; have A3 := a_ A30; clear A30; obtain rfl := Option.some.inj H; go_enter Tryd.func61, Tryd.ntmps61
 go_wp2_with (first | ((with_reducible refine gate_dst (N := 2) rfl ?_); refine box_event zr_ (N := 2) zr_ (cs := #[.slice A0_0 l0_0.length c0_0, .slice A0_1 l0_1.length c0_1]) (t := 55) zs_ ?_; intro gb293 hg w4 hbox hb; have n0_ := a_ (below_step y0_ hb); have n1_ := a_ (hbox); have n2_ := a_ ((by rw [hg]; exact (below_size y0_) : w.heap.size ≤ gb293)); have n3_ := a_ ((by rw [hg]; exact (below_size y0_) : w.heap.size ≤ gb293)); clear HB; have HB := n0_; have BK293 := n1_; have GW293 := n2_; have GE293 := n3_; clear n0_ n1_ n2_ n3_; clear hb hbox hg) | ((with_reducible refine gate_dst (N := 3) rfl ?_); refine box_event zr_ (N := 3) zr_ (cs := #[.int .i64 a1]) (t := 2) zs_ ?_; intro gb294 hg w5 hbox hb; have n0_ := a_ (blk_below (g := gb293) (o := .cells #[.slice A0_0 l0_0.length c0_0, .slice A0_1 l0_1.length c0_1] 55 (0, 0)) y71_ hb); have n1_ := a_ (below_step y51_ hb); have n2_ := a_ (hbox); have n3_ := a_ ((by rw [hg]; exact (below_size y51_) : w.heap.size ≤ gb294)); have n4_ := a_ ((by rw [hg]; exact (below_size y51_) : w.heap.size ≤ gb294)); have n5_ := a_ ((by rw [hg]; exact Nat.ne_of_lt (blk_lt (g := gb293) (o := .cells #[.slice A0_0 l0_0.length c0_0, .slice A0_1 l0_1.length c0_1] 55 (0, 0)) y71_) : gb293 ≠ gb294)); have n6_ := a_ ((by rw [hg]; exact Nat.ne_of_gt (blk_lt (g := gb293) (o := .cells #[.slice A0_0 l0_0.length c0_0, .slice A0_1 l0_1.length c0_1] 55 (0, 0)) y71_) : gb294 ≠ gb293)); clear BK293; clear HB; have BK293 := n0_; have HB := n1_; have BK294 := n2_; have GW294 := n3_; have GE294 := n4_; have NB293_294 := n5_; have NB294_293 := n6_; clear n0_ n1_ n2_ n3_ n4_ n5_ n6_; clear hb hbox hg; have hnb6 := NB293_294.out; have hnc6 := NB294_293.out; have hcz7_0 : w5.cell? ⟨gb293, 0, none⟩ = some (.slice A0_0 l0_0.length c0_0) := (blk_cell BK293.out 0).trans rfl; have hcz7_1 : w5.cell? ⟨gb293, 1, none⟩ = some (.slice A0_1 l0_1.length c0_1) := (blk_cell BK293.out 1).trans rfl; have hfz7_0 := blk_frozen BK293.out 0; have hfz7_1 := blk_frozen BK293.out 1) | ((with_reducible refine gate_callee (f := 91) rfl ?_); refine gc_ 91 7 Tryd.func91 #[.agg #[.slice A0_0 l0_0.length c0_0, .slice A0_1 l0_1.length c0_1], .func (.func 92) #[] #[.pointer (some ⟨gb294, 0, none⟩)]] ?_; (with_reducible refine (impl_Graph_flows__impl_Graph_flowsFrom_1.calls k _ _ l0_0 _ _ l0_1 _ a1 t295 _ ?side1 ?side2 ?side3 ?side4 ?side5 A3.out).mono ?_); (case side1 => repeat (first | exact (Kd.C_below HR0_0.out HB.out) | (with_reducible refine Kd.C_alloc ?_ _) | (with_reducible refine Kd.C_drewN ?_ _) | (with_reducible refine Kd.C_drew ?_))); (case side2 => exact HC0_0.out); (case side3 => repeat (first | exact (Kd.C_below HR0_1.out HB.out) | (with_reducible refine Kd.C_alloc ?_ _) | (with_reducible refine Kd.C_drewN ?_ _) | (with_reducible refine Kd.C_drew ?_))); (case side4 => exact HC0_1.out); (case side5 => exact C_block y100_ rfl); rintro e w8 ⟨v296, rfl, ho0, hb⟩; refine ⟨_, rfl, ?_⟩; have n0_ := a_ (Kd.R_lower (Kd.R_newB ho0 (g := gb294) (o := .cells #[.int .i64 a1] 2 (0, 0)) y100_) (below_size y61_)); have n1_ := a_ (blk_below (g := gb293) (o := .cells #[.slice A0_0 l0_0.length c0_0, .slice A0_1 l0_1.length c0_1] 55 (0, 0)) y71_ hb); have n2_ := a_ (blk_below (g := gb294) (o := .cells #[.int .i64 a1] 2 (0, 0)) y100_ hb); have n3_ := a_ (below_step y61_ hb); clear BK293; clear BK294; clear HB; have HO297 := n0_; have BK293 := n1_; have BK294 := n2_; have HB := n3_; clear n0_ n1_ n2_ n3_; (try clear hb); (try clear hb2); (try clear hk); (try clear hi); (try clear ho0)))
 go_ret
 exact ⟨_, y2_, by (with_reducible repeat (first | apply Kd.R_alloc | apply Kd.R_drewN | apply Kd.R_drew)); exact Kd.R_mono HO297.out (fun _ hk => trivial), y61_⟩

-- NOT PRINTED: function 62 (strings_Builder_String)

-- by hand: function 28 (impl_GraphText)

end Go.Proofs.YtmppibhdnajjjaaDoor.G
