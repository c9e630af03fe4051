-- Written by a program of this session's own (xp.py) for this seat.
import Derived.Test.YtmppibhdnajjjaaCZ
import Derived.Test.YtmppibhdnajjjaaC0
namespace Go.Proofs.Ytmppibhdnajjjaa.C
open Go.RowKit Go.Proofs.YtmppibhdnajjjaaW.PrintWords Go.Proofs.YtmppibhdnajjjaaW.PrintLast Go.Proofs.YtmppibhdnajjjaaW.PrintMore
attribute [local go_sem] Instr.field asAgg
attribute [local go_sem] max2_int min2_int max_two min_two max_three min_three max_four min_four   -- for this text's walks alone
set_option linter.unusedVariables false
set_option linter.unusedSimpArgs false

/-! ### laws_lwBig: function 12 -/
def laws_lwBig.f (l0 : List Int) : Option (Bool) := some (decide ((l0.length : Int) > 1048576))
set_option maxHeartbeats 8000000 in
set_option maxRecDepth 100000 in
theorem laws_lwBig.calls (A0 : Option Addr) (c0 : Nat) (l0 : List Int) (r : Bool) (w : World) (hr0 : Kd.C (Kd.int .u8) w A0 l0.length l0) (hc0 : l0.length ≤ c0) (h : laws_lwBig.f l0 = some r) :
    Calls Try.prog 12 #[.slice A0 l0.length c0] w fun e w' => e = .returned (.bool r) ∧ Drawn0 w w' := by
 have HR0 := a_ hr0; have HC0 := a_ hc0; clear hr0 hc0; have H : (some (decide ((l0.length : Int) > 1048576))) = some r := h; clear h; obtain rfl := Option.some.inj H; go_enter Try.func12, Try.ntmps12
 go_wp2
 go_ret
 exact ⟨y2_, y4_⟩

/-- A state of type 96 at block g of W; what its slices lead to came in by w0. -/
def IsS96 (w0 W : World) (g : Nat) (f0 : List Int) (f1 : Int) : Prop := ∃ A0 c0, W.heap[g]? = some (.cells #[.slice A0 f0.length c0, .int .i64 f1] 96 (0, 0)) ∧ w0.heap.size ≤ g ∧ Kd.C (Kd.int .u8) w0 A0 f0.length f0
theorem IsS96.grown {w0 W : World} {g : Nat} {f0 : List Int} {f1 : Int} {W1 : World} {row : Option Nat} (h : IsS96 w0 W g f0 f1) (hw : W.grownBy W1 row) (hne : some g ≠ row) : IsS96 w0 W1 g f0 f1 := by
  obtain ⟨A0, c0, hb, hg, hr0⟩ := h
  exact ⟨A0, c0, blk_grown hb hw hne, hg, hr0⟩
theorem IsS96.own_neN {w0 W : World} {g : Nat} {f0 : List Int} {f1 : Int} {α : Type} {d : Kd α} {e : Nat} {base : Nat} {ok : Nat → Prop} {v : Value} {xs : List α} (h : IsS96 w0 W g f0 f1) (ho : Kd.N d e W base ok v xs) (ht : e ≠ 96) : some g ≠ v.ownBlock := by
  obtain ⟨A0, c0, hb, hg, hr0⟩ := h
  exact Kd.N_ne ho hb ht
theorem IsS96.fresh {w0 W : World} {g : Nat} {f0 : List Int} {f1 : Int} (h : IsS96 w0 W g f0 f1) : ∀ k, W.heap.size ≤ k → k ≠ g := by
  obtain ⟨A0, c0, hb, hg, hr0⟩ := h
  exact Kd.freshB hb
theorem IsS96.kept {w0 W : World} {g : Nat} {f0 : List Int} {f1 : Int} {W1 : World} {S : Nat → Prop} (h : IsS96 w0 W g f0 f1) (hk : Kept W W1 S) (hne : ¬ S g) : IsS96 w0 W1 g f0 f1 := by
  obtain ⟨A0, c0, hb, hg, hr0⟩ := h
  exact ⟨A0, c0, blk_kept hb hk hne, hg, hr0⟩
theorem IsS96.below {w0 W : World} {g : Nat} {f0 : List Int} {f1 : Int} {W1 : World} (h : IsS96 w0 W g f0 f1) (hw : Below W.heap.size W W1) : IsS96 w0 W1 g f0 f1 := h.grown (grown_of_below hw none) (by simp)
theorem IsS96.alloc {w0 W : World} {g : Nat} {f0 : List Int} {f1 : Int} (h : IsS96 w0 W g f0 f1) (o : Obj) : IsS96 w0 (W.alloc o) g f0 f1 := h.below (below_alloc (Below.refl _ _) o)
theorem IsS96.drewN {w0 W : World} {g : Nat} {f0 : List Int} {f1 : Int} (h : IsS96 w0 W g f0 f1) (m : Nat) : IsS96 w0 (W.drewN m) g f0 f1 := h
theorem IsS96.drew {w0 W : World} {g : Nat} {f0 : List Int} {f1 : Int} (h : IsS96 w0 W g f0 f1) : IsS96 w0 W.drew g f0 f1 := h
theorem IsS96.at_ {w0 W : World} {g : Nat} {f0 : List Int} {f1 : Int} {w' : World} {m : Nat} (hq : W.drewN m = w') (h : IsS96 w0 W g f0 f1) : IsS96 w0 w' g f0 f1 := by subst hq; exact IsS96.drewN h m
theorem IsS96.apart {w0 W : World} {g : Nat} {f0 : List Int} {f1 : Int} {α : Type} {d : Kd α} {e : Nat} {base : Nat} {ok : Nat → Prop} {v : Value} {xs : List α} (h : IsS96 w0 W g f0 f1) (ho : d.R e W base ok v xs) (ht : ∀ q, q ∈ e :: d.E → q ≠ 96) : d.R e W base (fun k => ok k ∧ k ≠ g) v xs := by
  obtain ⟨A0, c0, hb, hg, hr0⟩ := h
  exact Kd.R_types ho hb ht
theorem IsS96.own_ne {w0 W : World} {g : Nat} {f0 : List Int} {f1 : Int} {α : Type} {d : Kd α} {e : Nat} {base : Nat} {ok : Nat → Prop} {v : Value} {xs : List α} (h : IsS96 w0 W g f0 f1) (ho : d.R e W base ok v xs) (ht : e ≠ 96) : some g ≠ v.ownBlock := by
  obtain ⟨A0, c0, hb, hg, hr0⟩ := h
  exact Kd.R_ne ho hb ht
theorem IsS96.apartQ {w0 W : World} {g : Nat} {f0 : List Int} {f1 : Int} {α : Type} {d : Kd α} {e : Nat} {base : Nat} {ok : Nat → Prop} {v : Value} {xs : List α} (h : IsS96 w0 W g f0 f1) (ho : d.Q e W base ok v xs) (ht : ∀ q, q ∈ e :: d.E → q ≠ 96) : d.Q e W base (fun k => ok k ∧ k ≠ g) v xs := by
  obtain ⟨A0, c0, hb, hg, hr0⟩ := h
  exact Kd.Q_types ho hb ht
theorem IsS96.own_neQ {w0 W : World} {g : Nat} {f0 : List Int} {f1 : Int} {α : Type} {d : Kd α} {e : Nat} {base : Nat} {ok : Nat → Prop} {v : Value} {xs : List α} (h : IsS96 w0 W g f0 f1) (ho : d.Q e W base ok v xs) (ht : e ≠ 96) : some g ≠ v.ownBlock := by
  obtain ⟨A0, c0, hb, hg, hr0⟩ := h
  exact Kd.Q_ne ho hb ht
theorem IsS96.apartS {w0 W : World} {g : Nat} {f0 : List Int} {f1 : Int} {α : Type} {d : Kd α} {e : Nat} {base : Nat} {ok : Nat → Prop} {v : Value} {xs : List α} (h : IsS96 w0 W g f0 f1) (ho : d.S e W base ok v xs) (ht : ∀ q, q ∈ e :: d.E → q ≠ 96) : d.S e W base (fun k => ok k ∧ k ≠ g) v xs := by
  obtain ⟨A0, c0, hb, hg, hr0⟩ := h
  exact Kd.S_types ho hb ht
theorem IsS96.own_neS {w0 W : World} {g : Nat} {f0 : List Int} {f1 : Int} {α : Type} {d : Kd α} {e : Nat} {base : Nat} {ok : Nat → Prop} {v : Value} {xs : List α} (h : IsS96 w0 W g f0 f1) (ho : d.S e W base ok v xs) (ht : e ≠ 96) : some g ≠ v.ownBlock := by
  obtain ⟨A0, c0, hb, hg, hr0⟩ := h
  exact Kd.S_ne ho hb ht
theorem IsS96.lt {w0 W : World} {g : Nat} {f0 : List Int} {f1 : Int} (h : IsS96 w0 W g f0 f1) : g < W.heap.size := by
  obtain ⟨A0, c0, hb, hg, hr0⟩ := h
  exact blk_lt hb
theorem IsS96.ge {w0 W : World} {g : Nat} {f0 : List Int} {f1 : Int} (h : IsS96 w0 W g f0 f1) : w0.heap.size ≤ g := by
  obtain ⟨A0, c0, hb, hg, hr0⟩ := h
  exact hg
theorem IsS96.ne_blk {w0 W : World} {g : Nat} {f0 : List Int} {f1 : Int} {a : Nat} {cs : Array Value} {t : TypeId} {fr : Nat × Nat} (h : IsS96 w0 W g f0 f1) (hb2 : W.heap[a]? = some (.cells cs t fr)) (ht : t ≠ 96) : g ≠ a := by
  obtain ⟨A0, c0, hb, hg, hr0⟩ := h
  rintro rfl
  rw [hb] at hb2
  injection hb2 with hb2
  injection hb2 with _ ht2
  exact ht ht2.symm
theorem IsS96.far {w0 W : World} {g : Nat} {f0 : List Int} {f1 : Int} {p : Addr} (h : IsS96 w0 W g f0 f1) (hne : g ≠ p.block) (u : Value) : IsS96 w0 (W.setCell p u) g f0 f1 := by
  obtain ⟨A0, c0, hb, hg, hr0⟩ := h
  exact ⟨A0, c0, blk_far hb hne u, hg, hr0⟩
theorem cellS96_0 {W : World} {g : Nat} {A0 : Option Addr} {c0 : Nat} {f0 : List Int} {f1 : Int} (h : W.heap[g]? = some (.cells #[.slice A0 f0.length c0, .int .i64 f1] 96 (0, 0))) : W.cell? ⟨g, 0, none⟩ = some (.slice A0 f0.length c0) := (blk_cell h 0).trans rfl
theorem cellS96_1 {W : World} {g : Nat} {A0 : Option Addr} {c0 : Nat} {f0 : List Int} {f1 : Int} (h : W.heap[g]? = some (.cells #[.slice A0 f0.length c0, .int .i64 f1] 96 (0, 0))) : W.cell? ⟨g, 1, none⟩ = some (.int .i64 f1) := (blk_cell h 1).trans rfl
theorem IsS96.set_1 {w0 W : World} {g : Nat} {f0 : List Int} {f1 : Int} (h : IsS96 w0 W g f0 f1) (x : Int) : IsS96 w0 (W.setCell ⟨g, 1, none⟩ (.int .i64 x)) g f0 x := by
  obtain ⟨A0, c0, hb, hg, hr0⟩ := h
  exact ⟨A0, c0, by simpa using blk_set hb 1 (.int .i64 x), hg, hr0⟩
theorem IsS96.new (w0 W : World) (A0 : Option Addr) (c0 : Nat) (f0 : List Int) (f1 : Int) (hB : Below w0.heap.size w0 W) (hr0 : Kd.C (Kd.int .u8) w0 A0 f0.length f0) : IsS96 w0 (W.alloc (.cells #[.slice A0 f0.length c0, .int .i64 f1] 96)) W.heap.size f0 f1 := ⟨A0, c0, by simpa using heap_alloc_new W _, hB.size, hr0⟩

/-! ### spec_l1Source: function 40 -/
def spec_l1Source.f (l0 : List Int) : Option (List Int × Int) := some (l0, 0)
set_option maxHeartbeats 8000000 in
set_option maxRecDepth 100000 in
theorem spec_l1Source.calls (A0 : Option Addr) (c0 : Nat) (l0 : List Int) (r1 : List Int) (r2 : Int) (w0 w : World) (hB : Below w0.heap.size w0 w) (hr0 : Kd.C (Kd.int .u8) w0 A0 l0.length l0) (hc0 : l0.length ≤ c0) (h : spec_l1Source.f l0 = some (r1, r2)) :
    Calls Try.prog 40 #[.slice A0 l0.length c0] w fun e w' => ∃ g_ : Nat, e = .returned (.pointer (some ⟨g_, 0, none⟩)) ∧ IsS96 w0 w' g_ r1 r2 ∧ Below w0.heap.size w0 w' ∧ Below w.heap.size w w' := by
 have hu96 := Try.underlying96; have HR0 := a_ hr0; have HC0 := a_ hc0; clear hr0 hc0; have HBW := a_ (Below.refl w.heap.size w); have HW0 := a_ hB.size; have HB := a_ hB; clear hB; have H : (some (l0, 0)) = some (r1, r2) := h; clear h; simp only [Option.some.injEq, Prod.mk.injEq] at H; obtain ⟨rfl, rfl⟩ := H; go_enter Try.func40, Try.ntmps40
 go_wp2_with (first | ((with_reducible refine gate_dst (N := 5) rfl ?_); refine box_event zr_ (N := 5) zr_ (cs := #[.slice A0 l0.length c0, .int .i64 0]) (t := 96) zs_ ?_; intro gb182 hg w2 hbox hb; have n0_ := a_ (below_step HBW.out hb); have n1_ := a_ (below_step y0_ hb); have n2_ := a_ (hbox); have n3_ := a_ ((by rw [hg]; exact (below_size (by repeat (first | (with_reducible first | exact HBW.out | apply below_alloc | apply pw_below_drewN | apply below_drew1) | exact HBW.out))) : w.heap.size ≤ gb182)); have n4_ := a_ ((Nat.le_trans HW0.out (by rw [hg]; exact (below_size (by repeat (first | (with_reducible first | exact HBW.out | apply below_alloc | apply pw_below_drewN | apply below_drew1) | exact HBW.out))) : w.heap.size ≤ gb182) : w0.heap.size ≤ gb182)); clear HBW; clear HB; have HBW := n0_; have HB := n1_; have BK182 := n2_; have GW182 := n3_; have GE182 := n4_; clear n0_ n1_ n2_ n3_ n4_; clear hb hbox hg))
 go_ret
 exact ⟨_, rfl, (show IsS96 w0 _ gb182 l0 0 from ⟨_, _, by (with_reducible repeat (first | refine blk_drewN ?_ _ | refine blk_drew ?_ | refine blk_alloc ?_ _)); exact BK182.out, GE182.out, HR0.out⟩), by repeat (first | (with_reducible first | exact HB.out | apply below_alloc | apply pw_below_drewN | apply below_drew1 | refine below_set ?_ GE182.out) | exact HB.out), by repeat (first | (with_reducible first | exact HBW.out | apply below_alloc | apply pw_below_drewN | apply below_drew1 | refine below_set ?_ GW182.out) | exact HBW.out)⟩

/-! ### spec_l1Next: function 41 -/
def spec_l1Next.f (s0_0 : List Int) (s0_1 : Int) (a1 : Int) : Option (Int × Int) := if a1 < 1 then (some (0, wrap64 (s0_1 + 1))) else (if (s0_0.length : Int) = 0 then (if a1 = 0 then (none) else (some (Int.tmod (wrap64 ((wrap64 ((wrap64 (s0_1 + 1)) - 1)) * 7)) a1, wrap64 (s0_1 + 1)))) else (if 0 ≤ (Int.tmod (wrap64 ((wrap64 (s0_1 + 1)) - 1)) (s0_0.length : Int)) then (if (Int.tmod (wrap64 ((wrap64 (s0_1 + 1)) - 1)) (s0_0.length : Int)) < (s0_0.length : Int) then (if a1 > 200 then (if 0 ≤ (Int.tmod (wrap64 ((wrap64 ((wrap64 (s0_1 + 1)) - 1)) + 1)) (s0_0.length : Int)) then (if (Int.tmod (wrap64 ((wrap64 ((wrap64 (s0_1 + 1)) - 1)) + 1)) (s0_0.length : Int)) < (s0_0.length : Int) then (if a1 = 0 then (none) else (some (Int.tmod (wrap64 ((wrap64 ((wrap64 ((wrap64 ((wrap64 (rd s0_0 (Int.tmod (wrap64 ((wrap64 (s0_1 + 1)) - 1)) (s0_0.length : Int)))) + (wrap64 ((wrap64 (Int.tdiv (wrap64 ((wrap64 (s0_1 + 1)) - 1)) (s0_0.length : Int))) * 37)))) * 251)) + (wrap64 ((wrap64 (rd s0_0 (Int.tmod (wrap64 ((wrap64 ((wrap64 (s0_1 + 1)) - 1)) + 1)) (s0_0.length : Int)))) * 13)))) + (wrap64 ((wrap64 (s0_1 + 1)) - 1)))) a1, wrap64 (s0_1 + 1)))) else (none)) else (none)) else (if a1 = 0 then (none) else (some (Int.tmod (wrap64 ((wrap64 (rd s0_0 (Int.tmod (wrap64 ((wrap64 (s0_1 + 1)) - 1)) (s0_0.length : Int)))) + (wrap64 ((wrap64 (Int.tdiv (wrap64 ((wrap64 (s0_1 + 1)) - 1)) (s0_0.length : Int))) * 37)))) a1, wrap64 (s0_1 + 1))))) else (none)) else (none)))
set_option maxHeartbeats 8000000 in
set_option maxRecDepth 100000 in
theorem spec_l1Next.calls (g : Nat) (s0_0 : List Int) (s0_1 : Int) (a1 : Int) (r1 : Int) (r2 : Int) (w0 w : World) (hI : IsS96 w0 w g s0_0 s0_1) (hB : Below w0.heap.size w0 w) (h : spec_l1Next.f s0_0 s0_1 a1 = some (r1, r2)) :
    Calls Try.prog 41 #[.pointer (some ⟨g, 0, none⟩), .int .i64 a1] w fun e w' => e = .returned (.int .i64 r1) ∧ IsS96 w0 w' g s0_0 r2 ∧ Below w0.heap.size w0 w' ∧ KeepBut w w' g none := by
 have HI0 := a_ hI; have HK := a_ (KeepBut.refl w g none); have HL := a_ hB.size; clear hI; have HW0 := a_ hB.size; have HB := a_ hB; clear hB; have H : (if a1 < 1 then (some (0, wrap64 (s0_1 + 1))) else (if (s0_0.length : Int) = 0 then (if a1 = 0 then (none) else (some (Int.tmod (wrap64 ((wrap64 ((wrap64 (s0_1 + 1)) - 1)) * 7)) a1, wrap64 (s0_1 + 1)))) else (if 0 ≤ (Int.tmod (wrap64 ((wrap64 (s0_1 + 1)) - 1)) (s0_0.length : Int)) then (if (Int.tmod (wrap64 ((wrap64 (s0_1 + 1)) - 1)) (s0_0.length : Int)) < (s0_0.length : Int) then (if a1 > 200 then (if 0 ≤ (Int.tmod (wrap64 ((wrap64 ((wrap64 (s0_1 + 1)) - 1)) + 1)) (s0_0.length : Int)) then (if (Int.tmod (wrap64 ((wrap64 ((wrap64 (s0_1 + 1)) - 1)) + 1)) (s0_0.length : Int)) < (s0_0.length : Int) then (if a1 = 0 then (none) else (some (Int.tmod (wrap64 ((wrap64 ((wrap64 ((wrap64 ((wrap64 (rd s0_0 (Int.tmod (wrap64 ((wrap64 (s0_1 + 1)) - 1)) (s0_0.length : Int)))) + (wrap64 ((wrap64 (Int.tdiv (wrap64 ((wrap64 (s0_1 + 1)) - 1)) (s0_0.length : Int))) * 37)))) * 251)) + (wrap64 ((wrap64 (rd s0_0 (Int.tmod (wrap64 ((wrap64 ((wrap64 (s0_1 + 1)) - 1)) + 1)) (s0_0.length : Int)))) * 13)))) + (wrap64 ((wrap64 (s0_1 + 1)) - 1)))) a1, wrap64 (s0_1 + 1)))) else (none)) else (none)) else (if a1 = 0 then (none) else (some (Int.tmod (wrap64 ((wrap64 (rd s0_0 (Int.tmod (wrap64 ((wrap64 (s0_1 + 1)) - 1)) (s0_0.length : Int)))) + (wrap64 ((wrap64 (Int.tdiv (wrap64 ((wrap64 (s0_1 + 1)) - 1)) (s0_0.length : Int))) * 37)))) a1, wrap64 (s0_1 + 1))))) else (none)) else (none)))) = some (r1, r2) := h; clear h; by_cases cx0 : a1 < 1; rw [if_pos cx0] at H; have cx0b0 : decide (a1 < 1) = true := decide_eq_true cx0; clear cx0; simp only [Option.some.injEq, Prod.mk.injEq] at H; obtain ⟨rfl, rfl⟩ := H; obtain ⟨ASz4_0, cSz4_0, HGz4, hgz4, HSz4_0⟩ := HI0.out; have hcz4_0 := cellS96_0 HGz4; have hcz4_1 := cellS96_1 HGz4; have hfz4_1 := blk_frozen HGz4 1; clear HGz4 hgz4; have m0_0 := t_; rotate_left; rw [if_neg cx0] at H; have cx0b0 : decide (a1 < 1) = false := decide_eq_false cx0; clear cx0; by_cases cx1 : (s0_0.length : Int) = 0; rw [if_pos cx1] at H; have cx1b0 : ((s0_0.length : Int) == 0) = true := beq_iff_eq.mpr cx1; have cx1b1 : ((s0_0.length : Int) != 0) = false := bne_eq_false_iff_eq.mpr cx1; clear cx1; by_cases cx2 : a1 = 0
 ·rw [if_pos cx2] at H; exact absurd H y49_
 rw [if_neg cx2] at H; have cx2b0 : (a1 == 0) = false := beq_eq_false_iff_ne.mpr cx2; have cx2b1 : (a1 != 0) = true := bne_iff_ne.mpr cx2; simp only [Option.some.injEq, Prod.mk.injEq] at H; obtain ⟨rfl, rfl⟩ := H; obtain ⟨ASz7_0, cSz7_0, HGz7, hgz7, HSz7_0⟩ := HI0.out; have hcz7_0 := cellS96_0 HGz7; have hcz7_1 := cellS96_1 HGz7; have hfz7_1 := blk_frozen HGz7 1; clear HGz7 hgz7; have m0_0 := t_; rotate_left; rw [if_neg cx1] at H; have cx1b0 : ((s0_0.length : Int) == 0) = false := beq_eq_false_iff_ne.mpr cx1; have cx1b1 : ((s0_0.length : Int) != 0) = true := bne_iff_ne.mpr cx1; have cx1b2 : ¬ (s0_0 = []) := fun h_ => cx1 (by rw [h_]; rfl); obtain ⟨ji8, hji8⟩ : ∃ j_ : Int, (Int.tmod (wrap64 ((wrap64 (s0_1 + 1)) - 1)) (s0_0.length : Int)) = j_ := ⟨_, rfl⟩; replace H : (if 0 ≤ (ji8) then (if (ji8) < (s0_0.length : Int) then (if a1 > 200 then (if 0 ≤ (Int.tmod (wrap64 ((wrap64 ((wrap64 (s0_1 + 1)) - 1)) + 1)) (s0_0.length : Int)) then (if (Int.tmod (wrap64 ((wrap64 ((wrap64 (s0_1 + 1)) - 1)) + 1)) (s0_0.length : Int)) < (s0_0.length : Int) then (if a1 = 0 then (none) else (some (Int.tmod (wrap64 ((wrap64 ((wrap64 ((wrap64 ((wrap64 (rd s0_0 (ji8))) + (wrap64 ((wrap64 (Int.tdiv (wrap64 ((wrap64 (s0_1 + 1)) - 1)) (s0_0.length : Int))) * 37)))) * 251)) + (wrap64 ((wrap64 (rd s0_0 (Int.tmod (wrap64 ((wrap64 ((wrap64 (s0_1 + 1)) - 1)) + 1)) (s0_0.length : Int)))) * 13)))) + (wrap64 ((wrap64 (s0_1 + 1)) - 1)))) a1, wrap64 (s0_1 + 1)))) else (none)) else (none)) else (if a1 = 0 then (none) else (some (Int.tmod (wrap64 ((wrap64 (rd s0_0 (ji8))) + (wrap64 ((wrap64 (Int.tdiv (wrap64 ((wrap64 (s0_1 + 1)) - 1)) (s0_0.length : Int))) * 37)))) a1, wrap64 (s0_1 + 1))))) else (none)) else (none)) = some (r1, r2) := by first | (rw [hji8] at H; exact H) | (simp only [hji8] at H ⊢; exact H)
 by_cases cx2 : 0 ≤ (ji8); rw [if_pos cx2] at H; have cx2b0 : decide (0 ≤ (ji8)) = true := decide_eq_true cx2; clear cx2; by_cases cx3 : (ji8) < (s0_0.length : Int); rw [if_pos cx3] at H; have cx3b0 : decide ((ji8) < (s0_0.length : Int)) = true := decide_eq_true cx3; clear cx3; by_cases cx4 : a1 > 200; rw [if_pos cx4] at H; have cx4b0 : decide (200 < a1) = true := decide_eq_true cx4; clear cx4; obtain ⟨ji12, hji12⟩ : ∃ j_ : Int, (Int.tmod (wrap64 ((wrap64 ((wrap64 (s0_1 + 1)) - 1)) + 1)) (s0_0.length : Int)) = j_ := ⟨_, rfl⟩; replace H : (if 0 ≤ (ji12) then (if (ji12) < (s0_0.length : Int) then (if a1 = 0 then (none) else (some (Int.tmod (wrap64 ((wrap64 ((wrap64 ((wrap64 ((wrap64 (rd s0_0 (ji8))) + (wrap64 ((wrap64 (Int.tdiv (wrap64 ((wrap64 (s0_1 + 1)) - 1)) (s0_0.length : Int))) * 37)))) * 251)) + (wrap64 ((wrap64 (rd s0_0 (ji12))) * 13)))) + (wrap64 ((wrap64 (s0_1 + 1)) - 1)))) a1, wrap64 (s0_1 + 1)))) else (none)) else (none)) = some (r1, r2) := by first | (rw [hji12] at H; exact H) | (simp only [hji12] at H ⊢; exact H)
 by_cases cx5 : 0 ≤ (ji12); rw [if_pos cx5] at H; have cx5b0 : decide (0 ≤ (ji12)) = true := decide_eq_true cx5; clear cx5; by_cases cx6 : (ji12) < (s0_0.length : Int); rw [if_pos cx6] at H; have cx6b0 : decide ((ji12) < (s0_0.length : Int)) = true := decide_eq_true cx6; clear cx6; by_cases cx7 : a1 = 0
 ·rw [if_pos cx7] at H; exact absurd H y49_
 rw [if_neg cx7] at H; have cx7b0 : (a1 == 0) = false := beq_eq_false_iff_ne.mpr cx7; have cx7b1 : (a1 != 0) = true := bne_iff_ne.mpr cx7; simp only [Option.some.injEq, Prod.mk.injEq] at H; obtain ⟨rfl, rfl⟩ := H; obtain ⟨ASz16_0, cSz16_0, HGz16, hgz16, HSz16_0⟩ := HI0.out; have hcz16_0 := cellS96_0 HGz16; have hcz16_1 := cellS96_1 HGz16; have hfz16_1 := blk_frozen HGz16 1; clear HGz16 hgz16; have m0_1 := t_; have m0_3 := t_; have m0_4 := t_; rotate_left
 ·rw [if_neg cx6] at H; exact absurd H y49_
 ·rw [if_neg cx5] at H; exact absurd H y49_
 rw [if_neg cx4] at H; have cx4b0 : decide (200 < a1) = false := decide_eq_false cx4; clear cx4; by_cases cx5 : a1 = 0
 ·rw [if_pos cx5] at H; exact absurd H y49_
 rw [if_neg cx5] at H; have cx5b0 : (a1 == 0) = false := beq_eq_false_iff_ne.mpr cx5; have cx5b1 : (a1 != 0) = true := bne_iff_ne.mpr cx5; simp only [Option.some.injEq, Prod.mk.injEq] at H; obtain ⟨rfl, rfl⟩ := H; obtain ⟨ASz18_0, cSz18_0, HGz18, hgz18, HSz18_0⟩ := HI0.out; have hcz18_0 := cellS96_0 HGz18; have hcz18_1 := cellS96_1 HGz18; have hfz18_1 := blk_frozen HGz18 1; clear HGz18 hgz18; have m0_2 := t_; have m0_3 := t_; have m0_5 := t_; rotate_left
 ·rw [if_neg cx3] at H; exact absurd H y49_
 ·rw [if_neg cx2] at H; exact absurd H y49_
 all_goals (
  first
  | fail_if_success clear m0_0
  |(clear m0_0; go_enter Try.func41, Try.ntmps41
    go_wp2
    repeat (go_quiet (fail); try go_wp2)
    go_ret
    exact ⟨y5_, y30_, y23_, y18_⟩)
  first
  | fail_if_success clear m0_1
  |(clear m0_1; have p9922068 : 0 ≤ ((ji8) : Int) := of_decide_eq_true y3_; have q9922068 : (ji8) < (s0_0.length : Int) := of_decide_eq_true y3_; obtain ⟨ad9922068, e9922068, hx9922068_0⟩ := Kd.at_int HSz16_0 (ji8) p9922068 q9922068)
  first
  | fail_if_success clear m0_2
  |(clear m0_2; have p9922068 : 0 ≤ ((ji8) : Int) := of_decide_eq_true y3_; have q9922068 : (ji8) < (s0_0.length : Int) := of_decide_eq_true y3_; obtain ⟨ad9922068, e9922068, hx9922068_0⟩ := Kd.at_int HSz18_0 (ji8) p9922068 q9922068)
  first
  | fail_if_success clear m0_3
  |(clear m0_3; cases e9922068; have hn9922068_0 : ad9922068.block ≠ g := Nat.ne_of_lt (Nat.lt_of_lt_of_le (by have := World.block_lt_of_cell? _ _ hx9922068_0; first | rwa [add_block] at this | exact this) (IsS96.ge HI0.out)); replace hx9922068_0 := pw_cell_below HB.out hx9922068_0; replace hx9922068_0 := (cell_far (p := ⟨g, 1, none⟩) (by first | (rw [add_block]; exact hn9922068_0) | (show (Addr.add _ _).block ≠ _; rw [add_block]; exact hn9922068_0) | exact hn9922068_0) (.int .i64 (wrap64 (s0_1 + 1)))).trans hx9922068_0; (try have hy9922068_0 := fun (n_ : Nat) => (show (((w.drewN n_).setCell ⟨g, 1, none⟩ (.int .i64 (wrap64 (s0_1 + 1))))).cell? _ = some _ from hx9922068_0)); clear hn9922068_0; replace p9922068 := eq_true p9922068; replace q9922068 := eq_true q9922068)
  first
  | fail_if_success clear m0_4
  |(clear m0_4; have p9548309 : 0 ≤ ((ji12) : Int) := of_decide_eq_true y3_; have q9548309 : (ji12) < (s0_0.length : Int) := of_decide_eq_true y3_; obtain ⟨ad9548309, e9548309, hx9548309_0⟩ := Kd.at_int HSz16_0 (ji12) p9548309 q9548309; obtain rfl : ad9922068 = ad9548309 := (by injection e9548309); have hn9548309_0 : ad9922068.block ≠ g := Nat.ne_of_lt (Nat.lt_of_lt_of_le (by have := World.block_lt_of_cell? _ _ hx9548309_0; first | rwa [add_block] at this | exact this) (IsS96.ge HI0.out)); replace hx9548309_0 := pw_cell_below HB.out hx9548309_0; replace hx9548309_0 := (cell_far (p := ⟨g, 1, none⟩) (by first | (rw [add_block]; exact hn9548309_0) | (show (Addr.add _ _).block ≠ _; rw [add_block]; exact hn9548309_0) | exact hn9548309_0) (.int .i64 (wrap64 (s0_1 + 1)))).trans hx9548309_0; (try have hy9548309_0 := fun (n_ : Nat) => (show (((w.drewN n_).setCell ⟨g, 1, none⟩ (.int .i64 (wrap64 (s0_1 + 1))))).cell? _ = some _ from hx9548309_0)); clear hn9548309_0; replace p9548309 := eq_true p9548309; replace q9548309 := eq_true q9548309; go_enter Try.func41, Try.ntmps41
    go_wp2
    repeat (go_quiet (fail); try go_wp2)
    go_ret
    exact ⟨by first | rfl | (simp [errW_none, errW_some] <;> rfl) | (simp only [← hji8, ← hji12]; first | rfl | (simp [errW_none, errW_some] <;> rfl)) | (simp [*, errW_none, errW_some] <;> rfl), y30_, y23_, y18_⟩)
  first
  | fail_if_success clear m0_5
  |(clear m0_5; go_enter Try.func41, Try.ntmps41
    go_wp2
    repeat (go_quiet (fail); try go_wp2)
    go_ret
    exact ⟨by first | rfl | (simp [errW_none, errW_some] <;> rfl) | (simp only [← hji8]; first | rfl | (simp [errW_none, errW_some] <;> rfl)) | (simp [*, errW_none, errW_some] <;> rfl), y30_, y23_, y18_⟩))

/-! ### spec_l1Pick: function 42 -/
def spec_l1Pick.f (s0_0 : List Int) (s0_1 : Int) (l1 : List Int) : Option (Int × Int) := (spec_l1Next.f s0_0 s0_1 (l1.length : Int)).bind fun bt185 => (if 0 ≤ bt185.1 then (if bt185.1 < (l1.length : Int) then (some (rd l1 bt185.1, bt185.2)) else (none)) else (none))
set_option maxHeartbeats 8000000 in
set_option maxRecDepth 100000 in
theorem spec_l1Pick.calls (g : Nat) (s0_0 : List Int) (s0_1 : Int) (A1 : Option Addr) (c1 : Nat) (l1 : List Int) (r1 : Int) (r2 : Int) (w0 w : World) (hI : IsS96 w0 w g s0_0 s0_1) (hB : Below w0.heap.size w0 w) (hr1 : Kd.C (Kd.int .i64) w A1 l1.length l1) (hc1 : l1.length ≤ c1) (hf1 : ∀ ad, A1 = some ad → 0 < l1.length → ad.block ≠ g) (h : spec_l1Pick.f s0_0 s0_1 l1 = some (r1, r2)) :
    Calls Try.prog 42 #[.pointer (some ⟨g, 0, none⟩), .slice A1 l1.length c1] w fun e w' => e = .returned (.int .i64 r1) ∧ IsS96 w0 w' g s0_0 r2 ∧ Below w0.heap.size w0 w' ∧ KeepBut w w' g none := by
 have HR1 := a_ hr1; have HC1 := a_ hc1; clear hr1 hc1; have HI0 := a_ hI; have HK := a_ (KeepBut.refl w g none); have HL := a_ hB.size; clear hI; have HW0 := a_ hB.size; have HB := a_ hB; clear hB; have H : ((spec_l1Next.f s0_0 s0_1 (l1.length : Int)).bind fun bt185 => (if 0 ≤ bt185.1 then (if bt185.1 < (l1.length : Int) then (some (rd l1 bt185.1, bt185.2)) else (none)) else (none))) = some (r1, r2) := h; clear h; replace H := Option.bind_eq_some_iff.mp H; obtain ⟨⟨t185, t186⟩, A30, H⟩ := H; replace H : (if 0 ≤ t185 then (if t185 < (l1.length : Int) then (some (rd l1 t185, t186)) else (none)) else (none)) = some (r1, r2) := H; have A3 := a_ A30; clear A30; by_cases c4 : 0 ≤ t185
 ·rw [if_pos c4] at H; have c4b0 : decide (0 ≤ t185) = true := decide_eq_true c4; clear c4; by_cases c5 : t185 < (l1.length : Int)
  ·rw [if_pos c5] at H; have c5b0 : decide (t185 < (l1.length : Int)) = true := decide_eq_true c5; clear c5; simp only [Option.some.injEq, Prod.mk.injEq] at H; obtain ⟨rfl, rfl⟩ := H; go_enter Try.func42, Try.ntmps42
   go_wp2_with (first | ((with_reducible refine gate_callee (f := 41) rfl ?_); refine gc_ 41 9 Try.func41 #[.pointer (some ⟨g, 0, none⟩), .int .i64 (l1.length : Int)] ?_; (with_reducible refine (spec_l1Next.calls g s0_0 s0_1 (l1.length : Int) t185 t186 w0 _ ?side1 ?side2 A3.out).mono ?_); (case side1 => repeat (first | (with_reducible first | exact HI0.out | apply IsS96.alloc | apply IsS96.drewN | apply IsS96.drew | apply IsS96.set_1) | exact HI0.out)); (case side2 => repeat (first | (with_reducible first | exact HB.out | apply below_alloc | apply pw_below_drewN | apply below_drew1 | refine below_set ?_ (IsS96.ge HI0.out)) | exact HB.out)); rintro e w6 ⟨rfl, hi, hb, hk⟩; refine ⟨_, rfl, ?_⟩; have n0_ := a_ (KeepBut.trans y18_ hk (.inl rfl)); have n1_ := a_ (hb); have n2_ := a_ (hi); clear HK; clear HB; clear HI0; have HK := n0_; have HB := n1_; have HI0 := n2_; clear n0_ n1_ n2_; (try clear hb); (try clear hb2); (try clear hk); (try clear hi); have p187 : 0 ≤ (t185 : Int) := of_decide_eq_true y3_; have q187 : t185 < (l1.length : Int) := of_decide_eq_true y3_; obtain ⟨ad187, e187, hx187_0⟩ := Kd.at_int HR1.out t185 p187 q187; cases e187; replace hx187_0 := keep_cell HK.out hx187_0 (by first | (rw [add_block]; exact hf1 _ rfl (by omega)) | exact hf1 _ rfl (by omega) | exact hf1 ad187 rfl (by omega)); replace p187 := eq_true p187; replace q187 := eq_true q187))
   go_ret
   exact ⟨y5_, y30_, y23_, y18_⟩
  ·rw [if_neg c5] at H; exact absurd H y49_
 ·rw [if_neg c4] at H; exact absurd H y49_

/-! ### spec_l1Chance: function 43 -/
def spec_l1Chance.f (s0_0 : List Int) (s0_1 : Int) (a1 : Int) : Option (Bool × Int) := (spec_l1Next.f s0_0 s0_1 a1).bind fun bt188 => (some ((bt188.1 == 0), bt188.2))
set_option maxHeartbeats 8000000 in
set_option maxRecDepth 100000 in
theorem spec_l1Chance.calls (g : Nat) (s0_0 : List Int) (s0_1 : Int) (a1 : Int) (r1 : Bool) (r2 : Int) (w0 w : World) (hI : IsS96 w0 w g s0_0 s0_1) (hB : Below w0.heap.size w0 w) (h : spec_l1Chance.f s0_0 s0_1 a1 = some (r1, r2)) :
    Calls Try.prog 43 #[.pointer (some ⟨g, 0, none⟩), .int .i64 a1] w fun e w' => e = .returned (.bool r1) ∧ IsS96 w0 w' g s0_0 r2 ∧ Below w0.heap.size w0 w' ∧ KeepBut w w' g none := by
 have HI0 := a_ hI; have HK := a_ (KeepBut.refl w g none); have HL := a_ hB.size; clear hI; have HW0 := a_ hB.size; have HB := a_ hB; clear hB; have H : ((spec_l1Next.f s0_0 s0_1 a1).bind fun bt188 => (some ((bt188.1 == 0), bt188.2))) = some (r1, r2) := h; clear h; replace H := Option.bind_eq_some_iff.mp H; obtain ⟨⟨t188, t189⟩, A30, H⟩ := H; replace H : (some ((t188 == 0), t189)) = some (r1, r2) := H; have A3 := a_ A30; clear A30; simp only [Option.some.injEq, Prod.mk.injEq] at H; obtain ⟨rfl, rfl⟩ := H; go_enter Try.func43, Try.ntmps43
 go_wp2_with (first | ((with_reducible refine gate_callee (f := 41) rfl ?_); refine gc_ 41 7 Try.func41 #[.pointer (some ⟨g, 0, none⟩), .int .i64 a1] ?_; (with_reducible refine (spec_l1Next.calls g s0_0 s0_1 a1 t188 t189 w0 _ ?side1 ?side2 A3.out).mono ?_); (case side1 => repeat (first | (with_reducible first | exact HI0.out | apply IsS96.alloc | apply IsS96.drewN | apply IsS96.drew | apply IsS96.set_1) | exact HI0.out)); (case side2 => repeat (first | (with_reducible first | exact HB.out | apply below_alloc | apply pw_below_drewN | apply below_drew1 | refine below_set ?_ (IsS96.ge HI0.out)) | exact HB.out)); rintro e w4 ⟨rfl, hi, hb, hk⟩; refine ⟨_, rfl, ?_⟩; have n0_ := a_ (KeepBut.trans y18_ hk (.inl rfl)); have n1_ := a_ (hb); have n2_ := a_ (hi); clear HK; clear HB; clear HI0; have HK := n0_; have HB := n1_; have HI0 := n2_; clear n0_ n1_ n2_; (try clear hb); (try clear hb2); (try clear hk); (try clear hi)))
 go_ret
 exact ⟨y5_, y30_, y23_, y18_⟩

/-! ### spec_DrawCutMarks: function 13 -/
def spec_DrawCutMarks.l0 : Nat → ByteArray → Int → List Int → Int → Option (ByteArray)
  | 0, _, _, _, _ => none
  | k + 1, x4, x5, x193000, x193001 => if x5 > 0 then ((some (([(⟨#[60, 97, 62]⟩ : ByteArray), (⟨#[32]⟩ : ByteArray), (⟨#[60, 98, 32, 120, 61, 34, 49, 34, 47, 62]⟩ : ByteArray), (⟨#[60, 47, 97, 62]⟩ : ByteArray), (⟨#[60, 33, 45, 45, 32, 60, 120, 62, 32, 45, 45, 62]⟩ : ByteArray), (⟨#[10]⟩ : ByteArray), (⟨#[116]⟩ : ByteArray), (⟨#[60]⟩ : ByteArray), (⟨#[62]⟩ : ByteArray), (⟨#[60, 33, 45, 45, 32, 97]⟩ : ByteArray)] : List ByteArray) : List ByteArray)).bind fun y195 => ((spec_l1Next.f x193000 x193001 10).bind fun bt198 => ((spec_l1Pick.f x193000 bt198.2 (([0, 1, 2, 3, 4, 5, 6, 0, 2, bt198.1] : List Int))).bind fun bt203 => (if 0 ≤ bt203.1 then (if bt203.1 < (y195.length : Int) then (if x4.size + (rdOf ByteArray.empty y195 bt203.1).size ≤ 9223372036854775807 then (spec_DrawCutMarks.l0 k (x4 ++ (rdOf ByteArray.empty y195 bt203.1)) (wrap64 (x5 - 1)) x193000 bt203.2) else (none)) else (none)) else (none))))) else ((spec_l1Chance.f x193000 x193001 40).bind fun bt206 => (if bt206.1 = true then (if 1501 ≤ 281474976710656 then (some (strOfNums (List.replicate 1501 0))) else (none)) else (some x4)))
def spec_DrawCutMarks.f (k : Nat) (l0 : List Int) : Option (ByteArray) := (spec_l1Source.f l0).bind fun bt190 => ((spec_l1Next.f bt190.1 bt190.2 7).bind fun bt193 => (spec_DrawCutMarks.l0 k (⟨#[]⟩ : ByteArray) bt193.1 bt190.1 bt193.2))
theorem spec_DrawCutMarks.mono_l : ∀ k, (∀ y0 y1 y2 y3, LeO (spec_DrawCutMarks.l0 k y0 y1 y2 y3) (spec_DrawCutMarks.l0 (k + 1) y0 y1 y2 y3))
  | 0 => fun _ _ _ _ r h => by simp [spec_DrawCutMarks.l0] at h
  | k + 1 => by
    have ih0 := spec_DrawCutMarks.mono_l k
    · intro y0 y1 y2 y3
      unfold spec_DrawCutMarks.l0
      repeat' (with_reducible first | exact ih0 _ _ _ _ | exact LeO.refl _ | exact LeO.none _ | refine LeO.ite ?_ ?_ | refine LeO.bind ?_ (fun _ => ?_))
theorem spec_DrawCutMarks.mono : ∀ a0 k, LeO (spec_DrawCutMarks.f k a0) (spec_DrawCutMarks.f (k + 1) a0) := by
  intro a0 k
  have ih0 := spec_DrawCutMarks.mono_l k
  unfold spec_DrawCutMarks.f
  repeat' (with_reducible first | exact ih0 _ _ _ _ | exact LeO.refl _ | exact LeO.none _ | refine LeO.ite ?_ ?_ | refine LeO.bind ?_ (fun _ => ?_))
set_option maxHeartbeats 8000000 in
set_option maxRecDepth 100000 in
theorem spec_DrawCutMarks.calls (k : Nat) (A0 : Option Addr) (c0 : Nat) (l0 : List Int) (r : ByteArray) (w : World) (hr0 : Kd.C (Kd.int .u8) w A0 l0.length l0) (hc0 : l0.length ≤ c0) (h : spec_DrawCutMarks.f k l0 = some r) :
    Calls Try.prog 13 #[.slice A0 l0.length c0] w fun e w' => e = .returned (.string r) ∧ Below w.heap.size w w' := by
 have HR0 := a_ hr0; have HC0 := a_ hc0; clear hr0 hc0; have HB := a_ (Below.refl w.heap.size w); have H : ((spec_l1Source.f l0).bind fun bt190 => ((spec_l1Next.f bt190.1 bt190.2 7).bind fun bt193 => (spec_DrawCutMarks.l0 k (⟨#[]⟩ : ByteArray) bt193.1 bt190.1 bt193.2))) = some r := h; clear h; replace H := Option.bind_eq_some_iff.mp H; obtain ⟨⟨t190, t191⟩, A20, H⟩ := H; replace H : ((spec_l1Next.f t190 t191 7).bind fun bt193 => (spec_DrawCutMarks.l0 k (⟨#[]⟩ : ByteArray) bt193.1 t190 bt193.2)) = some r := H; have A2 := a_ A20; clear A20; replace H := Option.bind_eq_some_iff.mp H; obtain ⟨⟨t193, t194⟩, A30, H⟩ := H; replace H : (spec_DrawCutMarks.l0 k (⟨#[]⟩ : ByteArray) t193 t190 t194) = some r := H; have A3 := a_ A30; clear A30; have H' := a_ H; clear H; go_enter Try.func13, Try.ntmps13
 go_wp2_with (first | ((with_reducible refine gate_callee (f := 40) rfl ?_); refine gc_ 40 7 Try.func40 #[.slice A0 l0.length c0] ?_; (with_reducible refine (spec_l1Source.calls _ _ l0 t190 t191 w _ ?side1 ?side2 ?side3 A2.out).mono ?_); (case side1 => repeat (first | (with_reducible first | exact HB.out | apply below_alloc | apply pw_below_drewN | apply below_drew1) | exact HB.out)); (case side2 => exact HR0.out); (case side3 => exact HC0.out); rintro e w4 ⟨g192, rfl, hi, hb, hb2⟩; refine ⟨_, rfl, ?_⟩; have n0_ := a_ (hb); have n1_ := a_ (hi); clear HB; have HB := n0_; have HI192 := n1_; clear n0_ n1_; (try clear hb); (try clear hb2); (try clear hk); (try clear hi)) | ((with_reducible refine gate_callee (f := 41) rfl ?_); refine gc_ 41 9 Try.func41 #[.pointer (some ⟨g192, 0, none⟩), .int .i64 7] ?_; (with_reducible refine (spec_l1Next.calls g192 t190 t191 7 t193 t194 w _ ?side1 ?side2 A3.out).mono ?_); (case side1 => repeat (first | (with_reducible first | exact HI192.out | apply IsS96.alloc | apply IsS96.drewN | apply IsS96.drew | apply IsS96.set_1) | exact HI192.out)); (case side2 => repeat (first | (with_reducible first | exact HB.out | apply below_alloc | apply pw_below_drewN | apply below_drew1 | refine below_set ?_ (IsS96.ge HI192.out)) | exact HB.out)); rintro e w5 ⟨rfl, hi, hb, hk⟩; refine ⟨_, rfl, ?_⟩; have n0_ := a_ (hb); have n1_ := a_ (hi); clear HB; clear HI192; have HB := n0_; have HI192 := n1_; clear n0_ n1_; (try clear hb); (try clear hb2); (try clear hk); (try clear hi)))
 go_loopg [4, 5] k (fun kq v4 v5 w' => ∃ (x4_1 : ByteArray) (x5_1 : Int) (x193001_1 : Int), v4 = .string x4_1 ∧ v5 = .int .i64 x5_1 ∧ Aside0 (spec_DrawCutMarks.l0 kq x4_1 x5_1 t190 x193001_1 = some r) ∧ Aside0 (kq ≤ k) ∧ Aside0 (IsS96 w w' g192 t190 x193001_1) ∧ Aside0 (Below w.heap.size w w'))
 case atStart => exact ⟨((⟨#[]⟩ : ByteArray)), (t193), (t194), y2_, y2_, H', ⟨Nat.le_refl _⟩, ⟨y29_⟩, ⟨y8_⟩⟩
 case round =>
  clear H'; obtain ⟨x4_1, x5_1, x193001_1, rfl, rfl, HA, HK1, HI192, HB⟩ := hrel; cases gk with
  | zero => exact absurd HA.out (by simp [spec_DrawCutMarks.l0])
  | succ k1 =>
   have H := HA.out; clear HA; simp only [spec_DrawCutMarks.l0] at H; by_cases cx0 : x5_1 > 0
   ·rw [if_pos cx0] at H; have cx0b0 : decide (0 < x5_1) = true := decide_eq_true cx0; clear cx0; obtain ⟨y195, hy_⟩ : ∃ y_ : List ByteArray, y_ = (([(⟨#[60, 97, 62]⟩ : ByteArray), (⟨#[32]⟩ : ByteArray), (⟨#[60, 98, 32, 120, 61, 34, 49, 34, 47, 62]⟩ : ByteArray), (⟨#[60, 47, 97, 62]⟩ : ByteArray), (⟨#[60, 33, 45, 45, 32, 60, 120, 62, 32, 45, 45, 62]⟩ : ByteArray), (⟨#[10]⟩ : ByteArray), (⟨#[116]⟩ : ByteArray), (⟨#[60]⟩ : ByteArray), (⟨#[62]⟩ : ByteArray), (⟨#[60, 33, 45, 45, 32, 97]⟩ : ByteArray)] : List ByteArray)) := ⟨_, rfl⟩; replace H : ((spec_l1Next.f t190 x193001_1 10).bind fun bt198 => ((spec_l1Pick.f t190 bt198.2 (([0, 1, 2, 3, 4, 5, 6, 0, 2, bt198.1] : List Int))).bind fun bt203 => (if 0 ≤ bt203.1 then (if bt203.1 < (y195.length : Int) then (if x4_1.size + (rdOf ByteArray.empty y195 bt203.1).size ≤ 9223372036854775807 then (spec_DrawCutMarks.l0 k1 (x4_1 ++ (rdOf ByteArray.empty y195 bt203.1)) (wrap64 (x5_1 - 1)) t190 bt203.2) else (none)) else (none)) else (none)))) = some r := z0_; have Ny195 := a_ hy_; clear hy_; replace H := Option.bind_eq_some_iff.mp H; obtain ⟨⟨t198, t199⟩, A70, H⟩ := H; replace H : ((spec_l1Pick.f t190 t199 (([0, 1, 2, 3, 4, 5, 6, 0, 2, t198] : List Int))).bind fun bt203 => (if 0 ≤ bt203.1 then (if bt203.1 < (y195.length : Int) then (if x4_1.size + (rdOf ByteArray.empty y195 bt203.1).size ≤ 9223372036854775807 then (spec_DrawCutMarks.l0 k1 (x4_1 ++ (rdOf ByteArray.empty y195 bt203.1)) (wrap64 (x5_1 - 1)) t190 bt203.2) else (none)) else (none)) else (none))) = some r := H; have A7 := a_ A70; clear A70; obtain ⟨y200, hy_⟩ : ∃ y_ : List Int, y_ = (([0, 1, 2, 3, 4, 5, 6, 0, 2, t198] : List Int)) := ⟨_, rfl⟩; replace H : ((spec_l1Pick.f t190 t199 y200).bind fun bt203 => (if 0 ≤ bt203.1 then (if bt203.1 < (y195.length : Int) then (if x4_1.size + (rdOf ByteArray.empty y195 bt203.1).size ≤ 9223372036854775807 then (spec_DrawCutMarks.l0 k1 (x4_1 ++ (rdOf ByteArray.empty y195 bt203.1)) (wrap64 (x5_1 - 1)) t190 bt203.2) else (none)) else (none)) else (none))) = some r := z0_; have Ny200 := a_ hy_; clear hy_; replace H := Option.bind_eq_some_iff.mp H; obtain ⟨⟨t203, t204⟩, A80, H⟩ := H; replace H : (if 0 ≤ t203 then (if t203 < (y195.length : Int) then (if x4_1.size + (rdOf ByteArray.empty y195 t203).size ≤ 9223372036854775807 then (spec_DrawCutMarks.l0 k1 (x4_1 ++ (rdOf ByteArray.empty y195 t203)) (wrap64 (x5_1 - 1)) t190 t204) else (none)) else (none)) else (none)) = some r := H; have A8 := a_ A80; clear A80; by_cases cx1 : 0 ≤ t203
    ·rw [if_pos cx1] at H; have cx1b0 : decide (0 ≤ t203) = true := decide_eq_true cx1; clear cx1; by_cases cx2 : t203 < (y195.length : Int)
     ·rw [if_pos cx2] at H; have cx2b0 : decide (t203 < (y195.length : Int)) = true := decide_eq_true cx2; clear cx2; by_cases cx3 : x4_1.size + (rdOf ByteArray.empty y195 t203).size ≤ 9223372036854775807
      ·rw [if_pos cx3] at H; have cx3b0 := eq_true cx3; have cx3b1 : decide (x4_1.size + (rdOf ByteArray.empty y195 t203).size ≤ 9223372036854775807) = true := decide_eq_true cx3; try have cx3b2 : (9223372036854775807 < x4_1.size + (rdOf ByteArray.empty y195 t203).size) = False := eq_false (Nat.not_lt.2 cx3)
       have H' := a_ H; clear H
       go_wp2_with (first | ((with_reducible refine gate_dst (N := 15) rfl ?_); refine Kd.R_lit Kd.string _ 9 ?hg (N := 15) ?hd (xs := ([(⟨#[60, 97, 62]⟩ : ByteArray), (⟨#[32]⟩ : ByteArray), (⟨#[60, 98, 32, 120, 61, 34, 49, 34, 47, 62]⟩ : ByteArray), (⟨#[60, 47, 97, 62]⟩ : ByteArray), (⟨#[60, 33, 45, 45, 32, 60, 120, 62, 32, 45, 45, 62]⟩ : ByteArray), (⟨#[10]⟩ : ByteArray), (⟨#[116]⟩ : ByteArray), (⟨#[60]⟩ : ByteArray), (⟨#[62]⟩ : ByteArray), (⟨#[60, 33, 45, 45, 32, 97]⟩ : ByteArray)] : List ByteArray)) (inner := [.string (⟨#[60, 97, 62]⟩ : ByteArray), .string (⟨#[32]⟩ : ByteArray), .string (⟨#[60, 98, 32, 120, 61, 34, 49, 34, 47, 62]⟩ : ByteArray), .string (⟨#[60, 47, 97, 62]⟩ : ByteArray), .string (⟨#[60, 33, 45, 45, 32, 60, 120, 62, 32, 45, 45, 62]⟩ : ByteArray), .string (⟨#[10]⟩ : ByteArray), .string (⟨#[116]⟩ : ByteArray), .string (⟨#[60]⟩ : ByteArray), .string (⟨#[62]⟩ : ByteArray), .string (⟨#[60, 33, 45, 45, 32, 97]⟩ : ByteArray)]) (ok := fun _ => True) (okp := fun _ => True) ?hr ?hp (fun _ hk => hk) trivial (Below.refl _ _) (Nat.le_refl _) y49_ ?_; (case hd => rfl); (case hg => rfl); (case hr => first | (go_simp; done) | (go_simp; rfl)); (case hp => exact (Reps.one (show Kd.M Kd.string _ _ _ (⟨#[60, 97, 62]⟩ : ByteArray) [.string (⟨#[60, 97, 62]⟩ : ByteArray)] from rfl) (Reps.one (show Kd.M Kd.string _ _ _ (⟨#[32]⟩ : ByteArray) [.string (⟨#[32]⟩ : ByteArray)] from rfl) (Reps.one (show Kd.M Kd.string _ _ _ (⟨#[60, 98, 32, 120, 61, 34, 49, 34, 47, 62]⟩ : ByteArray) [.string (⟨#[60, 98, 32, 120, 61, 34, 49, 34, 47, 62]⟩ : ByteArray)] from rfl) (Reps.one (show Kd.M Kd.string _ _ _ (⟨#[60, 47, 97, 62]⟩ : ByteArray) [.string (⟨#[60, 47, 97, 62]⟩ : ByteArray)] from rfl) (Reps.one (show Kd.M Kd.string _ _ _ (⟨#[60, 33, 45, 45, 32, 60, 120, 62, 32, 45, 45, 62]⟩ : ByteArray) [.string (⟨#[60, 33, 45, 45, 32, 60, 120, 62, 32, 45, 45, 62]⟩ : ByteArray)] from rfl) (Reps.one (show Kd.M Kd.string _ _ _ (⟨#[10]⟩ : ByteArray) [.string (⟨#[10]⟩ : ByteArray)] from rfl) (Reps.one (show Kd.M Kd.string _ _ _ (⟨#[116]⟩ : ByteArray) [.string (⟨#[116]⟩ : ByteArray)] from rfl) (Reps.one (show Kd.M Kd.string _ _ _ (⟨#[60]⟩ : ByteArray) [.string (⟨#[60]⟩ : ByteArray)] from rfl) (Reps.one (show Kd.M Kd.string _ _ _ (⟨#[62]⟩ : ByteArray) [.string (⟨#[62]⟩ : ByteArray)] from rfl) (Reps.one (show Kd.M Kd.string _ _ _ (⟨#[60, 33, 45, 45, 32, 97]⟩ : ByteArray) [.string (⟨#[60, 33, 45, 45, 32, 97]⟩ : ByteArray)] from rfl) (Reps.none _ _)))))))))))); intro v196 w12 ho13 hb hg_ hnew_; clear hg_ hnew_; (first | rw [← Ny195.out] at ho13 | (simp only [Int.reduceToNat] at ho13; rw [← Ny195.out] at ho13)); have n0_ := a_ (Kd.R_lower ho13 (below_size y8_)); have n1_ := a_ (IsS96.below y29_ hb); have n2_ := a_ (below_step y8_ hb); clear HI192; clear HB; have HO197 := n0_; have HI192 := n1_; have HB := n2_; clear n0_ n1_ n2_; clear hb ho13) | ((with_reducible refine gate_callee (f := 41) rfl ?_); refine gc_ 41 18 Try.func41 #[.pointer (some ⟨g192, 0, none⟩), .int .i64 10] ?_; (with_reducible refine (spec_l1Next.calls g192 t190 x193001_1 10 t198 t199 w _ ?side1 ?side2 A7.out).mono ?_); (case side1 => repeat (first | (with_reducible first | exact HI192.out | apply IsS96.alloc | apply IsS96.drewN | apply IsS96.drew | apply IsS96.set_1) | exact HI192.out)); (case side2 => repeat (first | (with_reducible first | exact HB.out | apply below_alloc | apply pw_below_drewN | apply below_drew1 | refine below_set ?_ (IsS96.ge HI192.out)) | exact HB.out)); rintro e w14 ⟨rfl, hi, hb, hk⟩; refine ⟨_, rfl, ?_⟩; have n0_ := a_ (Kd.R_mono (Kd.R_keep (IsS96.apart (show IsS96 w _ g192 t190 x193001_1 from by repeat (first | (with_reducible first | exact HI192.out | apply IsS96.alloc | apply IsS96.drewN | apply IsS96.drew | apply IsS96.set_1) | exact HI192.out)) y51_ (by decide)) hk (fun _ h => h.2)) (fun _ h => h.1)); have n1_ := a_ (hb); have n2_ := a_ (hi); clear HO197; clear HB; clear HI192; have HO197 := n0_; have HB := n1_; have HI192 := n2_; clear n0_ n1_ n2_; (try clear hb); (try clear hb2); (try clear hk); (try clear hi)) | ((with_reducible refine gate_dst (N := 19) rfl ?_); refine Kd.R_lit (Kd.int .i64) _ 2 ?hg (N := 19) ?hd (xs := ([0, 1, 2, 3, 4, 5, 6, 0, 2, t198] : List Int)) (inner := [.int .i64 0, .int .i64 1, .int .i64 2, .int .i64 3, .int .i64 4, .int .i64 5, .int .i64 6, .int .i64 0, .int .i64 2, .int .i64 t198]) (ok := fun _ => True) (okp := fun _ => True) ?hr ?hp (fun _ hk => hk) trivial (Below.refl _ _) (Nat.le_refl _) y49_ ?_; (case hd => rfl); (case hg => rfl); (case hr => first | (go_simp; done) | (go_simp; rfl)); (case hp => exact (Reps.one (show Kd.M (Kd.int .i64) _ _ _ 0 [.int .i64 0] from rfl) (Reps.one (show Kd.M (Kd.int .i64) _ _ _ 1 [.int .i64 1] from rfl) (Reps.one (show Kd.M (Kd.int .i64) _ _ _ 2 [.int .i64 2] from rfl) (Reps.one (show Kd.M (Kd.int .i64) _ _ _ 3 [.int .i64 3] from rfl) (Reps.one (show Kd.M (Kd.int .i64) _ _ _ 4 [.int .i64 4] from rfl) (Reps.one (show Kd.M (Kd.int .i64) _ _ _ 5 [.int .i64 5] from rfl) (Reps.one (show Kd.M (Kd.int .i64) _ _ _ 6 [.int .i64 6] from rfl) (Reps.one (show Kd.M (Kd.int .i64) _ _ _ 0 [.int .i64 0] from rfl) (Reps.one (show Kd.M (Kd.int .i64) _ _ _ 2 [.int .i64 2] from rfl) (Reps.one (show Kd.M (Kd.int .i64) _ _ _ t198 [.int .i64 t198] from rfl) (Reps.none _ _)))))))))))); intro v201 w15 ho16 hb hg_ hnew_; clear hg_ hnew_; (first | rw [← Ny200.out] at ho16 | (simp only [Int.reduceToNat] at ho16; rw [← Ny200.out] at ho16)); have n0_ := a_ (Kd.R_below y51_ hb); have n1_ := a_ (Kd.R_lower ho16 (below_size y8_)); have n2_ := a_ (IsS96.below y29_ hb); have n3_ := a_ (below_step y8_ hb); clear HO197; clear HI192; clear HB; have HO197 := n0_; have HO202 := n1_; have HI192 := n2_; have HB := n3_; clear n0_ n1_ n2_ n3_; clear hb ho16; obtain ⟨Ao17, co17, eo17⟩ := Kd.R_slice HO202.out; subst eo17) | ((with_reducible refine gate_callee (f := 42) rfl ?_); refine gc_ 42 20 Try.func42 #[.pointer (some ⟨g192, 0, none⟩), .slice Ao17 y200.length co17] ?_; (with_reducible refine (spec_l1Pick.calls g192 t190 t199 _ _ y200 t203 t204 w _ ?side1 ?side2 ?side3 ?side4 ?side5 A8.out).mono ?_); (case side1 => repeat (first | (with_reducible first | exact HI192.out | apply IsS96.alloc | apply IsS96.drewN | apply IsS96.drew | apply IsS96.set_1) | exact HI192.out)); (case side2 => repeat (first | (with_reducible first | exact HB.out | apply below_alloc | apply pw_below_drewN | apply below_drew1 | refine below_set ?_ (IsS96.ge HI192.out)) | exact HB.out)); (case side3 => repeat (first | exact (Kd.R_reads' HO202.out).2.2 | (with_reducible refine Kd.C_alloc ?_ _) | (with_reducible refine Kd.C_drewN ?_ _) | (with_reducible refine Kd.C_drew ?_))); (case side4 => exact (Kd.R_reads' HO202.out).2.1); (case side5 => exact far_slice (IsS96.own_ne HI192.out HO202.out (by decide))); rintro e w18 ⟨rfl, hi, hb, hk⟩; refine ⟨_, rfl, ?_⟩; have n0_ := a_ (Kd.R_mono (Kd.R_keep (IsS96.apart (show IsS96 w _ g192 t190 t199 from by repeat (first | (with_reducible first | exact HI192.out | apply IsS96.alloc | apply IsS96.drewN | apply IsS96.drew | apply IsS96.set_1) | exact HI192.out)) y51_ (by decide)) hk (fun _ h => h.2)) (fun _ h => h.1)); have n1_ := a_ (Kd.R_mono (Kd.R_keep (IsS96.apart (show IsS96 w _ g192 t190 t199 from by repeat (first | (with_reducible first | exact HI192.out | apply IsS96.alloc | apply IsS96.drewN | apply IsS96.drew | apply IsS96.set_1) | exact HI192.out)) (by (with_reducible repeat (first | apply Kd.R_alloc | apply Kd.R_drewN | apply Kd.R_drew)); exact HO202.out) (by decide)) hk (fun _ h => h.2)) (fun _ h => h.1)); have n2_ := a_ (hb); have n3_ := a_ (hi); clear HO197; clear HO202; clear HB; clear HI192; have HO197 := n0_; have HO202 := n1_; have HB := n2_; have HI192 := n3_; clear n0_ n1_ n2_ n3_; (try clear hb); (try clear hb2); (try clear hk); (try clear hi); obtain ⟨Ao19, co19, eo19⟩ := Kd.R_slice HO197.out; subst eo19; have p205 : 0 ≤ (t203 : Int) := of_decide_eq_true y3_; have q205 : t203 < (y195.length : Int) := of_decide_eq_true y3_; obtain ⟨ad205, e205, hx205_0⟩ := Kd.at_string (Kd.R_reads' HO197.out).2.2 t203 p205 q205; cases e205; replace p205 := eq_true p205; replace q205 := eq_true q205))
       go_roundg k1
       case measure => have := HK1.out; omega
       case rel => exact ⟨(x4_1 ++ (rdOf ByteArray.empty y195 t203)), (wrap64 (x5_1 - 1)), (t204), y2_, y2_, H', ⟨y45_⟩, ⟨y29_⟩, ⟨y8_⟩⟩
      ·rw [if_neg cx3] at H; exact absurd H y49_
     ·rw [if_neg cx2] at H; exact absurd H y49_
    ·rw [if_neg cx1] at H; exact absurd H y49_
   ·rw [if_neg cx0] at H; have cx0b0 : decide (0 < x5_1) = false := decide_eq_false cx0; clear cx0; replace H := Option.bind_eq_some_iff.mp H; obtain ⟨⟨t206, t207⟩, A200, H⟩ := H; replace H : (if t206 = true then (if 1501 ≤ 281474976710656 then (some (strOfNums (List.replicate 1501 0))) else (none)) else (some x4_1)) = some r := H; have A20 := a_ A200; clear A200; by_cases cx1 : t206 = true
    ·subst cx1; rw [if_pos rfl] at H; by_cases cx2 : 1501 ≤ 281474976710656
     ·rw [if_pos cx2] at H; have cx2b0 := eq_true cx2; have cx2b1 : decide (1501 ≤ 281474976710656) = true := decide_eq_true cx2; clear cx2; obtain ⟨y208, hy_⟩ : ∃ y_ : List Int, y_ = (List.replicate 1501 0) := ⟨_, rfl⟩; replace H : (some (strOfNums y208)) = some r := z0_; have Ny208 := a_ hy_; clear hy_; obtain rfl := Option.some.inj H; go_wp2_with (first | ((with_reducible refine gate_callee (f := 43) rfl ?_); refine gc_ 43 25 Try.func43 #[.pointer (some ⟨g192, 0, none⟩), .int .i64 40] ?_; (with_reducible refine (spec_l1Chance.calls g192 t190 x193001_1 40 true t207 w _ ?side1 ?side2 A20.out).mono ?_); (case side1 => repeat (first | (with_reducible first | exact HI192.out | apply IsS96.alloc | apply IsS96.drewN | apply IsS96.drew | apply IsS96.set_1) | exact HI192.out)); (case side2 => repeat (first | (with_reducible first | exact HB.out | apply below_alloc | apply pw_below_drewN | apply below_drew1 | refine below_set ?_ (IsS96.ge HI192.out)) | exact HB.out)); rintro e w23 ⟨rfl, hi, hb, hk⟩; refine ⟨_, rfl, ?_⟩; have n0_ := a_ (hb); have n1_ := a_ (hi); clear HB; clear HI192; have HB := n0_; have HI192 := n1_; clear n0_ n1_; (try clear hb); (try clear hb2); (try clear hk); (try clear hi)) | ((with_reducible refine gate_dst (N := 26) rfl ?_); refine Kd.R_make (Kd.int .u8) _ 5 rfl (N := 26) rfl 29 _ _ rfl 1501 rfl rfl Try.underlying29 (.int .u8 0) 1 info5 rfl (by decide) (by omega) 0 (ok := fun _ => True) (okp := fun _ => True) rfl (fun _ hk => hk) trivial (by omega) (by omega) (Below.refl _ _) (Nat.le_refl _) ?_; intro v209 w24 ho25 hb hg_ hnew_; clear hg_ hnew_; (first | rw [← Ny208.out] at ho25 | (simp only [Int.reduceToNat] at ho25; rw [← Ny208.out] at ho25)); have n0_ := a_ (Kd.R_lower ho25 (below_size y8_)); have n1_ := a_ (IsS96.below y29_ hb); have n2_ := a_ (below_step y8_ hb); clear HI192; clear HB; have HO210 := n0_; have HI192 := n1_; have HB := n2_; clear n0_ n1_ n2_; clear hb ho25; have hcv26 := own_string (P := Try.prog) Try.underlying29 Try.underlying5 Try.underlying9 (Kd.own_of_R HO210.out)))
      go_ret
      exact ⟨y5_, y8_⟩
     ·rw [if_neg cx2] at H; exact absurd H y49_
    ·replace cx1 := Bool.eq_false_iff.mpr cx1; subst cx1; rw [if_neg (show ¬ (false = true) by decide)] at H; obtain rfl := Option.some.inj H; go_wp2_with (first | ((with_reducible refine gate_callee (f := 43) rfl ?_); refine gc_ 43 25 Try.func43 #[.pointer (some ⟨g192, 0, none⟩), .int .i64 40] ?_; (with_reducible refine (spec_l1Chance.calls g192 t190 x193001_1 40 false t207 w _ ?side1 ?side2 A20.out).mono ?_); (case side1 => repeat (first | (with_reducible first | exact HI192.out | apply IsS96.alloc | apply IsS96.drewN | apply IsS96.drew | apply IsS96.set_1) | exact HI192.out)); (case side2 => repeat (first | (with_reducible first | exact HB.out | apply below_alloc | apply pw_below_drewN | apply below_drew1 | refine below_set ?_ (IsS96.ge HI192.out)) | exact HB.out)); rintro e w27 ⟨rfl, hi, hb, hk⟩; refine ⟨_, rfl, ?_⟩; have n0_ := a_ (hb); have n1_ := a_ (hi); clear HB; clear HI192; have HB := n0_; have HI192 := n1_; clear n0_ n1_; (try clear hb); (try clear hb2); (try clear hk); (try clear hi)))
     go_ret
     exact ⟨y5_, y8_⟩

/-! ### laws_lwTexts: function 14 -/
def laws_lwTexts.l0 : Nat → List ByteArray → List ByteArray → Int → Option (Bool)
  | 0, _, _, _ => none
  | k + 1, x0, x1, x5 => if x5 < (x0.length : Int) then (if 0 ≤ x5 then (if x5 < (x1.length : Int) then (if (rdOf ByteArray.empty x0 x5).toList = (rdOf ByteArray.empty x1 x5).toList then (laws_lwTexts.l0 k x0 x1 (wrap64 (x5 + 1))) else (some false)) else (none)) else (none)) else (some true)
def laws_lwTexts.f (k : Nat) (l0 : List ByteArray) (l1 : List ByteArray) : Option (Bool) := if (l0.length : Int) = (l1.length : Int) then (laws_lwTexts.l0 k l0 l1 0) else (some false)
theorem laws_lwTexts.mono_l : ∀ k, (∀ y0 y1 y2, LeO (laws_lwTexts.l0 k y0 y1 y2) (laws_lwTexts.l0 (k + 1) y0 y1 y2))
  | 0 => fun _ _ _ r h => by simp [laws_lwTexts.l0] at h
  | k + 1 => by
    have ih0 := laws_lwTexts.mono_l k
    · intro y0 y1 y2
      unfold laws_lwTexts.l0
      repeat' (with_reducible first | exact ih0 _ _ _ | exact LeO.refl _ | exact LeO.none _ | refine LeO.ite ?_ ?_ | refine LeO.bind ?_ (fun _ => ?_))
theorem laws_lwTexts.mono : ∀ a0 a1 k, LeO (laws_lwTexts.f k a0 a1) (laws_lwTexts.f (k + 1) a0 a1) := by
  intro a0 a1 k
  have ih0 := laws_lwTexts.mono_l k
  unfold laws_lwTexts.f
  repeat' (with_reducible first | exact ih0 _ _ _ | exact LeO.refl _ | exact LeO.none _ | refine LeO.ite ?_ ?_ | refine LeO.bind ?_ (fun _ => ?_))
set_option maxHeartbeats 8000000 in
set_option maxRecDepth 100000 in
theorem laws_lwTexts.calls (k : Nat) (A0 : Option Addr) (c0 : Nat) (l0 : List ByteArray) (A1 : Option Addr) (c1 : Nat) (l1 : List ByteArray) (r : Bool) (w : World) (hr0 : Kd.C Kd.string w A0 l0.length l0) (hc0 : l0.length ≤ c0) (hr1 : Kd.C Kd.string w A1 l1.length l1) (hc1 : l1.length ≤ c1) (h : laws_lwTexts.f k l0 l1 = some r) :
    Calls Try.prog 14 #[.slice A0 l0.length c0, .slice A1 l1.length c1] w fun e w' => e = .returned (.bool r) ∧ Drawn0 w w' := by
 have HR0 := a_ hr0; have HC0 := a_ hc0; clear hr0 hc0; have HR1 := a_ hr1; have HC1 := a_ hc1; clear hr1 hc1; have H : (if (l0.length : Int) = (l1.length : Int) then (laws_lwTexts.l0 k l0 l1 0) else (some false)) = some r := h; clear h; by_cases cx0 : (l0.length : Int) = (l1.length : Int)
 ·rw [if_pos cx0] at H; have cx0b0 : ((l0.length : Int) == (l1.length : Int)) = true := beq_iff_eq.mpr cx0; have cx0b1 : ((l0.length : Int) != (l1.length : Int)) = false := bne_eq_false_iff_eq.mpr cx0; have cx0b2 : (l0.length == l1.length) = true := by first | simpa using cx0 | (simp at cx0 ⊢; omega)
  clear cx0; have H' := a_ H; clear H; go_enter Try.func14, Try.ntmps14
  go_wp2
  repeat (go_quiet (fail); try go_wp2)
  go_loopg [5] k (fun kq v5 w' => ∃ (x5_1 : Int), v5 = .int .i64 x5_1 ∧ Aside0 (laws_lwTexts.l0 kq l0 l1 x5_1 = some r) ∧ Aside0 (kq ≤ k) ∧ Drawn0 w w')
  case atStart => exact ⟨(0), y2_, H', ⟨Nat.le_refl _⟩, y4_⟩
  case round =>
   clear H'; (try clear cx0); (try clear cx0b0); (try clear cx0b1); (try clear cx0b2); obtain ⟨x5_1, rfl, HA, HK1, ⟨m1, rfl⟩⟩ := hrel; cases gk with
   | zero => exact absurd HA.out (by simp [laws_lwTexts.l0])
   | succ k1 =>
    have H := HA.out; clear HA; simp only [laws_lwTexts.l0] at H; by_cases cx1 : x5_1 < (l0.length : Int); rw [if_pos cx1] at H; have cx1b0 : decide (x5_1 < (l0.length : Int)) = true := decide_eq_true cx1; clear cx1; by_cases cx2 : 0 ≤ x5_1; rw [if_pos cx2] at H; have cx2b0 : decide (0 ≤ x5_1) = true := decide_eq_true cx2; clear cx2; by_cases cx3 : x5_1 < (l1.length : Int); rw [if_pos cx3] at H; have cx3b0 : decide (x5_1 < (l1.length : Int)) = true := decide_eq_true cx3; clear cx3; by_cases cx4 : (rdOf ByteArray.empty l0 x5_1).toList = (rdOf ByteArray.empty l1 x5_1).toList; rw [if_pos cx4] at H; have cx4b0 : ((rdOf ByteArray.empty l0 x5_1).toList == (rdOf ByteArray.empty l1 x5_1).toList) = true := beq_iff_eq.mpr cx4; have cx4b1 : ((rdOf ByteArray.empty l0 x5_1).toList != (rdOf ByteArray.empty l1 x5_1).toList) = false := bne_eq_false_iff_eq.mpr cx4; clear cx4; have H' := a_ H; clear H; have m1_0 := t_; have m1_1 := t_; rotate_left; rw [if_neg cx4] at H; have cx4b0 : ((rdOf ByteArray.empty l0 x5_1).toList == (rdOf ByteArray.empty l1 x5_1).toList) = false := beq_eq_false_iff_ne.mpr cx4; have cx4b1 : ((rdOf ByteArray.empty l0 x5_1).toList != (rdOf ByteArray.empty l1 x5_1).toList) = true := bne_iff_ne.mpr cx4; obtain rfl := Option.some.inj H; have m1_0 := t_; have m1_2 := t_; rotate_left
    ·rw [if_neg cx3] at H; exact absurd H y49_
    ·rw [if_neg cx2] at H; exact absurd H y49_
    rw [if_neg cx1] at H; have cx1b0 : decide (x5_1 < (l0.length : Int)) = false := decide_eq_false cx1; clear cx1; obtain rfl := Option.some.inj H; have m1_3 := t_; rotate_left
    all_goals (
     first
     | fail_if_success clear m1_0
     |(clear m1_0; have p9922068 : 0 ≤ (x5_1 : Int) := of_decide_eq_true y3_; have q9922068 : x5_1 < (l0.length : Int) := of_decide_eq_true y3_; obtain ⟨ad9922068, e9922068, hx9922068_0⟩ := Kd.at_string HR0.out x5_1 p9922068 q9922068; cases e9922068; replace p9922068 := eq_true p9922068; replace q9922068 := eq_true q9922068; have p9548309 : 0 ≤ (x5_1 : Int) := of_decide_eq_true y3_; have q9548309 : x5_1 < (l1.length : Int) := of_decide_eq_true y3_; obtain ⟨ad9548309, e9548309, hx9548309_0⟩ := Kd.at_string HR1.out x5_1 p9548309 q9548309; cases e9548309; replace p9548309 := eq_true p9548309; replace q9548309 := eq_true q9548309; go_wp2
       repeat (go_quiet (fail); try go_wp2))
     first
     | fail_if_success clear m1_1
     |(clear m1_1; go_roundg k1
       case measure => have := HK1.out; omega
       case rel => exact ⟨(wrap64 (x5_1 + 1)), y2_, H', ⟨y45_⟩, y4_⟩)
     first
     | fail_if_success clear m1_2
     |(clear m1_2; go_ret
       exact ⟨y2_, y4_⟩)
     first
     | fail_if_success clear m1_3
     |(clear m1_3; go_wp2
       repeat (go_quiet (fail); try go_wp2)
       go_ret
       exact ⟨y2_, y4_⟩))
 ·rw [if_neg cx0] at H; have cx0b0 : ((l0.length : Int) == (l1.length : Int)) = false := beq_eq_false_iff_ne.mpr cx0; have cx0b1 : ((l0.length : Int) != (l1.length : Int)) = true := bne_iff_ne.mpr cx0; have cx0b2 : (l0.length == l1.length) = false := by first | simpa using cx0 | (simp at cx0 ⊢; omega)
  obtain rfl := Option.some.inj H; go_enter Try.func14, Try.ntmps14
  go_wp2
  repeat (go_quiet (fail); try go_wp2)
  go_ret
  exact ⟨y2_, y4_⟩

/-! ### impl_isBlank: function 45 -/
def impl_isBlank.f (a0 : Int) : Option (Bool) := if a0 = 32 then (some true) else (some (a0 == 10))
set_option maxHeartbeats 8000000 in
set_option maxRecDepth 100000 in
theorem impl_isBlank.calls (a0 : Int) (r : Bool) (w : World) (h : impl_isBlank.f a0 = some r) :
    Calls Try.prog 45 #[.int .u8 a0] w fun e w' => e = .returned (.bool r) ∧ Drawn0 w w' := by
 have H : (if a0 = 32 then (some true) else (some (a0 == 10))) = some r := h; clear h; by_cases c2 : a0 = 32
 ·rw [if_pos c2] at H; have c2b0 : (a0 == 32) = true := beq_iff_eq.mpr c2; have c2b1 : (a0 != 32) = false := bne_eq_false_iff_eq.mpr c2; clear c2; obtain rfl := Option.some.inj H; go_enter Try.func45, Try.ntmps45
  go_wp2
  go_ret
  exact ⟨y2_, y4_⟩
 ·rw [if_neg c2] at H; have c2b0 : (a0 == 32) = false := beq_eq_false_iff_ne.mpr c2; have c2b1 : (a0 != 32) = true := bne_iff_ne.mpr c2; obtain rfl := Option.some.inj H; go_enter Try.func45, Try.ntmps45
  go_wp2
  go_ret
  exact ⟨y2_, y4_⟩

/-! ### impl_areAll__impl_isBlank: function 132 -/
def impl_areAll__impl_isBlank.l0 : Nat → ByteArray → Int → Int → Option (Bool)
  | 0, _, _, _ => none
  | k + 1, x0, x7, x8 => if x8 < x7 then (if 0 ≤ x8 then (if x8 < (x0.size : Int) then ((impl_isBlank.f (bt x0 x8)).bind fun t213 => (if t213 = true then (impl_areAll__impl_isBlank.l0 k x0 x7 (wrap64 (x8 + 1))) else (some false))) else (none)) else (none)) else (some true)
def impl_areAll__impl_isBlank.f (k : Nat) (a0 : ByteArray)  : Option (Bool) := impl_areAll__impl_isBlank.l0 k a0 (a0.size : Int) 0
theorem impl_areAll__impl_isBlank.mono_l : ∀ k, (∀ y0 y1 y2, LeO (impl_areAll__impl_isBlank.l0 k y0 y1 y2) (impl_areAll__impl_isBlank.l0 (k + 1) y0 y1 y2))
  | 0 => fun _ _ _ r h => by simp [impl_areAll__impl_isBlank.l0] at h
  | k + 1 => by
    have ih0 := impl_areAll__impl_isBlank.mono_l k
    · intro y0 y1 y2
      unfold impl_areAll__impl_isBlank.l0
      repeat' (with_reducible first | exact ih0 _ _ _ | exact LeO.refl _ | exact LeO.none _ | refine LeO.ite ?_ ?_ | refine LeO.bind ?_ (fun _ => ?_))
theorem impl_areAll__impl_isBlank.mono : ∀ a0 k, LeO (impl_areAll__impl_isBlank.f k a0) (impl_areAll__impl_isBlank.f (k + 1) a0) := by
  intro a0 k
  have ih0 := impl_areAll__impl_isBlank.mono_l k
  unfold impl_areAll__impl_isBlank.f
  repeat' (with_reducible first | exact ih0 _ _ _ | exact LeO.refl _ | exact LeO.none _ | refine LeO.ite ?_ ?_ | refine LeO.bind ?_ (fun _ => ?_))
set_option maxHeartbeats 8000000 in
set_option maxRecDepth 100000 in
theorem impl_areAll__impl_isBlank.calls (k : Nat) (a0 : ByteArray)  (r : Bool) (w : World) (h : impl_areAll__impl_isBlank.f k a0 = some r) :
    Calls Try.prog 44 #[.string a0, .func (.func 45) #[] #[]] w fun e w' => e = .returned (.bool r) ∧ Drawn0 w w' := by
 have H : (impl_areAll__impl_isBlank.l0 k a0 (a0.size : Int) 0) = some r := h; clear h; have H' := a_ H; clear H; go_enter Try.func44, Try.ntmps44
 go_wp2
 go_loopg [8] k (fun kq v8 w' => ∃ (x8_1 : Int), v8 = .int .i64 x8_1 ∧ Aside0 (impl_areAll__impl_isBlank.l0 kq a0 (a0.size : Int) x8_1 = some r) ∧ Aside0 (kq ≤ k) ∧ Drawn0 w w')
 case atStart => exact ⟨(0), y2_, H', ⟨Nat.le_refl _⟩, y4_⟩
 case round =>
  clear H'; obtain ⟨x8_1, rfl, HA, HK1, ⟨m1, rfl⟩⟩ := hrel; cases gk with
  | zero => exact absurd HA.out (by simp [impl_areAll__impl_isBlank.l0])
  | succ k1 =>
   have H := HA.out; clear HA; simp only [impl_areAll__impl_isBlank.l0] at H; by_cases cx0 : x8_1 < (a0.size : Int); rw [if_pos cx0] at H; have cx0b0 : decide (x8_1 < (a0.size : Int)) = true := decide_eq_true cx0; clear cx0; by_cases cx1 : 0 ≤ x8_1; rw [if_pos cx1] at H; have cx1b0 : decide (0 ≤ x8_1) = true := decide_eq_true cx1; clear cx1; by_cases cx2 : x8_1 < (a0.size : Int); rw [if_pos cx2] at H; have cx2b0 : decide (x8_1 < (a0.size : Int)) = true := decide_eq_true cx2; clear cx2; replace H := Option.bind_eq_some_iff.mp H; obtain ⟨tx3, Ay3, H⟩ := H; have Ax3 := a_ Ay3; clear Ay3; by_cases cx4 : tx3 = true; subst cx4; rw [if_pos rfl] at H; have H' := a_ H; clear H; have m0_0 := t_; have m0_1 := t_; rotate_left; replace cx4 := Bool.eq_false_iff.mpr cx4; subst cx4; rw [if_neg (show ¬ (false = true) by decide)] at H; obtain rfl := Option.some.inj H; have m0_0 := t_; have m0_2 := t_; rotate_left
   ·rw [if_neg cx2] at H; exact absurd H y49_
   ·rw [if_neg cx1] at H; exact absurd H y49_
   rw [if_neg cx0] at H; have cx0b0 : decide (x8_1 < (a0.size : Int)) = false := decide_eq_false cx0; clear cx0; obtain rfl := Option.some.inj H; have m0_3 := t_; rotate_left
   all_goals (
    first
    | fail_if_success clear m0_0
    |(clear m0_0; have p9922068 : 0 ≤ (x8_1 : Int) := of_decide_eq_true y3_; have q9922068 : x8_1 < (a0.size : Int) := of_decide_eq_true y3_; have hx9922068 := bt_at a0 x8_1; replace p9922068 := eq_true p9922068; replace q9922068 := eq_true q9922068; go_wp2_with (first | ((with_reducible refine gate_dyn (t := 11) rfl ?_); refine goesV_ (some 15) rfl rfl Try.func45 y35_ rfl #[.int .u8 (bt a0 x8_1)] rfl (by (try simp only [List.map_toArray, List.map_cons, List.map_nil]); first | done | rfl | (simp only [List.length_drop, List.length_take]; rfl) | (go_simp; done) | (simp [Act.eval, bne]; done)) ?_; (with_reducible refine (impl_isBlank.calls (bt a0 x8_1) _ _ Ax3.out).mono ?_); rintro e w' ⟨rfl, ⟨nd, rfl⟩⟩; refine ⟨_, rfl, ?_⟩)))
    first
    | fail_if_success clear m0_1
    |(clear m0_1; go_roundg k1
      case measure => have := HK1.out; omega
      case rel => exact ⟨(wrap64 (x8_1 + 1)), y2_, H', ⟨y45_⟩, y4_⟩)
    first
    | fail_if_success clear m0_2
    |(clear m0_2; go_ret
      exact ⟨y2_, y4_⟩)
    first
    | fail_if_success clear m0_3
    |(clear m0_3; go_wp2
      go_ret
      exact ⟨y2_, y4_⟩))

/-! ### impl_IsSpace: function 15 -/
def impl_IsSpace.f (k : Nat) (a0 : ByteArray) : Option (Bool) := (impl_areAll__impl_isBlank.f k a0).bind fun t213 => (some t213)
theorem impl_IsSpace.mono : ∀ a0 k, LeO (impl_IsSpace.f k a0) (impl_IsSpace.f (k + 1) a0) := by
  intro a0 k
  unfold impl_IsSpace.f
  repeat' (with_reducible first | exact impl_areAll__impl_isBlank.mono _ _ | exact LeO.refl _ | exact LeO.none _ | refine LeO.ite ?_ ?_ | refine LeO.bind ?_ (fun _ => ?_))
set_option maxHeartbeats 8000000 in
set_option maxRecDepth 100000 in
theorem impl_IsSpace.calls (k : Nat) (a0 : ByteArray) (r : Bool) (w : World) (h : impl_IsSpace.f k a0 = some r) :
    Calls Try.prog 15 #[.string a0] w fun e w' => e = .returned (.bool r) ∧ Drawn0 w w' := by
 have H : ((impl_areAll__impl_isBlank.f k a0).bind fun t213 => (some t213)) = some r := h; clear h; replace H := Option.bind_eq_some_iff.mp H; obtain ⟨t213, A20, H⟩ := H; have A2 := a_ A20; clear A20; obtain rfl := Option.some.inj H; go_enter Try.func15, Try.ntmps15
 go_wp2_with (first | ((with_reducible refine gate_callee (f := 44) rfl ?_); refine gc_ 44 4 Try.func44 #[.string a0, .func (.func 45) #[] #[]] ?_; (with_reducible refine (impl_areAll__impl_isBlank.calls k a0  t213 _ A2.out).mono ?_); rintro e w' ⟨rfl, ⟨nd, rfl⟩⟩; refine ⟨_, rfl, ?_⟩))
 go_ret
 exact ⟨y2_, y4_⟩

/-! ### spec_IsSpace: function 16 -/
def spec_IsSpace.l0 : Nat → ByteArray → Int → Option (Bool)
  | 0, _, _ => none
  | k + 1, x0, x3 => if x3 < (x0.size : Int) then (if 0 ≤ x3 then (if (bt x0 x3) = 32 then (spec_IsSpace.l0 k x0 (wrap64 (x3 + 1))) else (if (bt x0 x3) = 10 then (spec_IsSpace.l0 k x0 (wrap64 (x3 + 1))) else (some false))) else (none)) else (some true)
def spec_IsSpace.f (k : Nat) (a0 : ByteArray) : Option (Bool) := spec_IsSpace.l0 k a0 0
theorem spec_IsSpace.mono_l : ∀ k, (∀ y0 y1, LeO (spec_IsSpace.l0 k y0 y1) (spec_IsSpace.l0 (k + 1) y0 y1))
  | 0 => fun _ _ r h => by simp [spec_IsSpace.l0] at h
  | k + 1 => by
    have ih0 := spec_IsSpace.mono_l k
    · intro y0 y1
      unfold spec_IsSpace.l0
      repeat' (with_reducible first | exact ih0 _ _ | exact LeO.refl _ | exact LeO.none _ | refine LeO.ite ?_ ?_ | refine LeO.bind ?_ (fun _ => ?_))
theorem spec_IsSpace.mono : ∀ a0 k, LeO (spec_IsSpace.f k a0) (spec_IsSpace.f (k + 1) a0) := by
  intro a0 k
  have ih0 := spec_IsSpace.mono_l k
  unfold spec_IsSpace.f
  repeat' (with_reducible first | exact ih0 _ _ | exact LeO.refl _ | exact LeO.none _ | refine LeO.ite ?_ ?_ | refine LeO.bind ?_ (fun _ => ?_))
set_option maxHeartbeats 8000000 in
set_option maxRecDepth 100000 in
theorem spec_IsSpace.calls (k : Nat) (a0 : ByteArray) (r : Bool) (w : World) (h : spec_IsSpace.f k a0 = some r) :
    Calls Try.prog 16 #[.string a0] w fun e w' => e = .returned (.bool r) ∧ Drawn0 w w' := by
 have H : (spec_IsSpace.l0 k a0 0) = some r := h; clear h; have H' := a_ H; clear H; go_enter Try.func16, Try.ntmps16
 go_wp2
 go_loopg [3] k (fun kq v3 w' => ∃ (x3_1 : Int), v3 = .int .i64 x3_1 ∧ Aside0 (spec_IsSpace.l0 kq a0 x3_1 = some r) ∧ Aside0 (kq ≤ k) ∧ Drawn0 w w')
 case atStart => exact ⟨(0), y2_, H', ⟨Nat.le_refl _⟩, y4_⟩
 case round =>
  clear H'; obtain ⟨x3_1, rfl, HA, HK1, ⟨m1, rfl⟩⟩ := hrel; cases gk with
  | zero => exact absurd HA.out (by simp [spec_IsSpace.l0])
  | succ k1 =>
   have H := HA.out; clear HA; simp only [spec_IsSpace.l0] at H; by_cases cx0 : x3_1 < (a0.size : Int); rw [if_pos cx0] at H; have cx0b0 : decide (x3_1 < (a0.size : Int)) = true := decide_eq_true cx0; clear cx0; by_cases cx1 : 0 ≤ x3_1; rw [if_pos cx1] at H; have cx1b0 : decide (0 ≤ x3_1) = true := decide_eq_true cx1; clear cx1; by_cases cx2 : (bt a0 x3_1) = 32; rw [if_pos cx2] at H; have cx2b0 : ((bt a0 x3_1) == 32) = true := beq_iff_eq.mpr cx2; have cx2b1 : ((bt a0 x3_1) != 32) = false := bne_eq_false_iff_eq.mpr cx2; clear cx2; have H' := a_ H; clear H; have m0_0 := t_; have m0_1 := t_; rotate_left; rw [if_neg cx2] at H; have cx2b0 : ((bt a0 x3_1) == 32) = false := beq_eq_false_iff_ne.mpr cx2; have cx2b1 : ((bt a0 x3_1) != 32) = true := bne_iff_ne.mpr cx2; by_cases cx3 : (bt a0 x3_1) = 10; rw [if_pos cx3] at H; have cx3b0 : ((bt a0 x3_1) == 10) = true := beq_iff_eq.mpr cx3; have cx3b1 : ((bt a0 x3_1) != 10) = false := bne_eq_false_iff_eq.mpr cx3; clear cx3; have H' := a_ H; clear H; have m0_0 := t_; have m0_2 := t_; have m0_3 := t_; rotate_left; rw [if_neg cx3] at H; have cx3b0 : ((bt a0 x3_1) == 10) = false := beq_eq_false_iff_ne.mpr cx3; have cx3b1 : ((bt a0 x3_1) != 10) = true := bne_iff_ne.mpr cx3; obtain rfl := Option.some.inj H; have m0_0 := t_; have m0_2 := t_; have m0_4 := t_; rotate_left
   ·rw [if_neg cx1] at H; exact absurd H y49_
   rw [if_neg cx0] at H; have cx0b0 : decide (x3_1 < (a0.size : Int)) = false := decide_eq_false cx0; clear cx0; obtain rfl := Option.some.inj H; have m0_5 := t_; rotate_left
   all_goals (
    first
    | fail_if_success clear m0_0
    |(clear m0_0; have p9922068 : 0 ≤ (x3_1 : Int) := of_decide_eq_true y3_; have q9922068 : x3_1 < (a0.size : Int) := of_decide_eq_true y3_; have hx9922068 := bt_at a0 x3_1; replace p9922068 := eq_true p9922068; replace q9922068 := eq_true q9922068)
    first
    | fail_if_success clear m0_1
    |(clear m0_1; go_wp2
      go_roundg k1
      case measure => have := HK1.out; omega
      case rel => exact ⟨(wrap64 (x3_1 + 1)), y2_, H', ⟨y45_⟩, y4_⟩)
    first
    | fail_if_success clear m0_2
    |(clear m0_2; have p9548309 : 0 ≤ (x3_1 : Int) := of_decide_eq_true y3_; have q9548309 : x3_1 < (a0.size : Int) := of_decide_eq_true y3_; have hx9548309 := bt_at a0 x3_1; replace p9548309 := eq_true p9548309; replace q9548309 := eq_true q9548309; go_wp2)
    first
    | fail_if_success clear m0_3
    |(clear m0_3; go_roundg k1
      case measure => have := HK1.out; omega
      case rel => exact ⟨(wrap64 (x3_1 + 1)), y2_, H', ⟨y45_⟩, y4_⟩)
    first
    | fail_if_success clear m0_4
    |(clear m0_4; go_ret
      exact ⟨y2_, y4_⟩)
    first
    | fail_if_success clear m0_5
    |(clear m0_5; go_wp2
      go_ret
      exact ⟨y2_, y4_⟩))

end Go.Proofs.Ytmppibhdnajjjaa.C
