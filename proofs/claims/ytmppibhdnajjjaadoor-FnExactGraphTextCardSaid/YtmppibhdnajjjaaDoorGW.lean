/- The program's GraphText, walked: what a call of it hands back. Condition: the tables of words and of powers of ten hold what their texts say. -/
import Derived.Test.YtmppibhdnajjjaaDoorGH
import Derived.Test.YtmppibhdnajjjaaDoorGB
import Derived.Test.YtmppibhdnajjjaaDoorG12
import Derived.Test.YtmppibhdnajjjaaDoorG13
namespace Go.Proofs.YtmppibhdnajjjaaDoor.G
set_option linter.unusedVariables false
set_option linter.unusedSimpArgs false
open Go.RowKit Go.Proofs.YtmppibhdnajjjaaDoor Go.Proofs.YtmppibhdnajjjaaDoorW.PrintWords Go.Proofs.YtmppibhdnajjjaaDoorW.PrintLast Go.Proofs.YtmppibhdnajjjaaDoorW.PrintMore
attribute [local go_sem] Instr.field asAgg
abbrev GNs := List S94
abbrev FLs := List S97
/-- A node's flows, written out. -/
def flowT (l1 : FLs) : List Int → Option (List UInt8)
  | [] => some []
  | f :: fs => if 0 ≤ f ∧ f < (l1.length : Int) then (impl_decimal.f (rd_T97 l1 f).f1).bind fun d => (flowT l1 fs).bind fun r => some (32 :: (d.data.toList ++ r)) else none
/-- So many nodes from a place on, written out. -/
def nodeT (k : Nat) (l0 : GNs) (l1 : FLs) : Nat → Nat → Option (List UInt8)
  | 0, _ => some []
  | n + 1, i => (impl_decimal.f (i : Int)).bind fun d => if 1 ≤ (rd_T94 l0 (i : Int)).f0 ∧ (rd_T94 l0 (i : Int)).f0 ≤ 13 then (impl_Graph_flowsFrom.f k l0 l1 (i : Int)).bind fun fs => (flowT l1 fs).bind fun ft => (nodeT k l0 l1 n (i + 1)).bind fun r => some (d.data.toList ++ 58 :: 32 :: (words.getD ((rd_T94 l0 (i : Int)).f0 - 1).toNat [] ++ (ft ++ 10 :: r))) else none
def impl_GraphText.f (k : Nat) (l0 : GNs) (l1 : FLs) : Option (Int × ByteArray) :=
  (impl_GraphFault.f k l0 l1).bind fun c => if c = 0 then (nodeT k l0 l1 l0.length 0).bind fun t => if t.length ≤ 1000000 ∧ l0.length ≤ 1000000 then some (0, ⟨t.toArray⟩) else none else some (c, (⟨#[]⟩ : ByteArray))
theorem nodeT_mono (l0 : GNs) (l1 : FLs) (k : Nat) : ∀ n i, LeO (nodeT k l0 l1 n i) (nodeT (k + 1) l0 l1 n i)
  | 0, _ => LeO.refl _
  | n + 1, i => by
    have ih := nodeT_mono l0 l1 k n (i + 1)
    unfold nodeT
    refine LeO.bind (LeO.refl _) (fun _ => LeO.ite ?_ (LeO.refl _))
    refine LeO.bind (impl_Graph_flowsFrom.mono _ _ _ _) (fun _ => LeO.bind (LeO.refl _) (fun _ => LeO.bind ih (fun _ => LeO.refl _)))
theorem impl_GraphText.mono : ∀ a0 a1 k, LeO (impl_GraphText.f k a0 a1) (impl_GraphText.f (k + 1) a0 a1) := by
  intro a0 a1 k
  unfold impl_GraphText.f
  exact LeO.bind (impl_GraphFault.mono _ _ _) (fun _ => LeO.ite (LeO.bind (nodeT_mono _ _ _ _ _) (fun _ => LeO.refl _)) (LeO.refl _))
theorem builder_below {T e : TypeId} {B b : Nat} {bs : List Value} {w w' : World} (h : Lib.IsBuilderF T e B b bs w) (hb : Below w.heap.size w w') : Lib.IsBuilderF T e B b bs w' := by
  have key : ∀ p, Lib.BuilderAtF T e B b p bs w → Lib.BuilderAtF T e B b p bs w' := fun p h => by
    have hlt := h.lt
    obtain ⟨hB, v, hbk, hown, hne⟩ := h
    refine ⟨hB, v, (hb.block b hlt).trans hbk, ⟨hown.1, ?_⟩, hne⟩
    rcases hown.2 with h | ⟨g, cap, cur, fz, hv, hg, hh, r⟩
    · exact .inl h
    · exact .inr ⟨g, cap, cur, fz, hv, hg, (hb.block g (Array.getElem?_eq_some_iff.1 hh).1).trans hh, r⟩
  exact h.elim (fun h => .inl (key _ h)) (fun h => .inr (key _ h))
theorem strCells_eq (s : ByteArray) : Lib.strCells s = Lib.byteCells s.data.toList := by
  simp [Lib.strCells, Lib.byteCells]
set_option maxHeartbeats 4000000 in
set_option maxRecDepth 100000 in
theorem graph_bad (k : Nat) (A0 : Option Addr) (c0 : Nat) (l0 : GNs) (A1 : Option Addr) (c1 : Nat) (l1 : FLs) (c : Int) (w : World) (hr0 : Kd.C k94 w A0 l0.length l0) (hc0 : l0.length ≤ c0) (hr1 : Kd.C k97 w A1 l1.length l1) (hc1 : l1.length ≤ c1)
    (hf : impl_GraphFault.f k l0 l1 = some c) (hne : c ≠ 0) :
    Calls Tryd.prog 28 #[.agg #[.slice A0 l0.length c0, .slice A1 l1.length c1]] w fun e w' => e = .returned (.agg #[.int .i64 c, .string (⟨#[]⟩ : ByteArray)]) ∧ Below w.heap.size w w' := by
  have cne : (c != 0) = true := bne_iff_ne.mpr hne
  have ceq : (c == 0) = false := beq_eq_false_iff_ne.mpr hne
  have hu55 := Tryd.underlying55
  have hu23 := Tryd.underlying23
  go_enter Tryd.func28, Tryd.ntmps28
  go_wp2_with (first
    | ((with_reducible refine gate_dst (N := 1) rfl ?_); refine box_event ?hg (N := 1) ?hd (cs := #[.slice A0 l0.length c0, .slice A1 l1.length c1]) (t := 55) ?hr ?_; (case hd => rfl); (case hg => rfl); (case hr => first | (go_simp; done) | (go_simp; rfl)); intro g1 hg1 w1 hx1 hb1; have ge1 : w.heap.size ≤ g1 := (by rw [hg1]; exact Nat.le_refl _); clear hg1)
    | ((with_reducible refine gate_dst (N := 2) rfl ?_); refine box_event ?hg (N := 2) ?hd (cs := #[.int .i64 0, .string (⟨#[]⟩ : ByteArray)]) (t := 23) ?hr ?_; (case hd => rfl); (case hg => rfl); (case hr => first | (go_simp; done) | (go_simp; rfl)); intro g2 hg2 w2 hx2 hb2; have hB2 : Below w.heap.size w w2 := below_step hb1 hb2; have x1 := blk_below hx1 hb2; have z1 : w2.cell? ⟨g1, 0, none⟩ = some (.slice A0 l0.length c0) := (blk_cell x1 0).trans rfl; have z2 : w2.cell? ⟨g1, 1, none⟩ = some (.slice A1 l1.length c1) := (blk_cell x1 1).trans rfl; have ge2 : w.heap.size ≤ g2 := (by rw [hg2]; exact hb1.size); have ne12 : g1 ≠ g2 := (by rw [hg2]; exact Nat.ne_of_lt (blk_lt hx1)); have ne21 := Ne.symm ne12; clear hg2)
    | (go_at_call 58; refine (impl_GraphFault.calls k A0 c0 l0 A1 c1 l1 c _ (Kd.C_below hr0 hB2) hc0 (Kd.C_below hr1 hB2) hc1 hf).mono ?_))
  rintro e w3 ⟨rfl, hb3⟩
  have hB3 := below_step hB2 hb3
  have x2 := blk_below hx2 hb3
  have y0 : w3.cell? ⟨g2, 0, none⟩ = some (.int .i64 0) := (blk_cell x2 0).trans rfl
  have y1 : w3.cell? ⟨g2, 1, none⟩ = some (.string (⟨#[]⟩ : ByteArray)) := (blk_cell x2 1).trans rfl
  have q0 := blk_frozen x2 0
  have q1 := blk_frozen x2 1
  go_wp2
  refine bodyPost_ret (results_cell_row rfl _ _ g2 23 #[.int .i64 c, .string (⟨#[]⟩ : ByteArray)] (0, 0) _ rfl (by (with_reducible repeat (first | refine blk_drewN ?_ _ | refine blk_drew ?_ | refine blk_alloc ?_ _)); refine blk_put (cs := #[.int .i64 c, .string (⟨#[]⟩ : ByteArray)]) ?_ 1 _ rfl; (with_reducible repeat (first | refine blk_drewN ?_ _ | refine blk_drew ?_ | refine blk_alloc ?_ _)); refine blk_put (cs := #[.int .i64 0, .string (⟨#[]⟩ : ByteArray)]) ?_ 0 _ rfl; (with_reducible repeat (first | refine blk_drewN ?_ _ | refine blk_drew ?_ | refine blk_alloc ?_ _)); exact x2) Tryd.underlying23 rfl (by kernel_rfl)) rfl ?_
  exact ⟨rfl, by repeat (first | (with_reducible first | exact hB3 | apply below_alloc | apply pw_below_drewN | apply below_drew1 | refine below_set ?_ ge2) | exact hB3)⟩
theorem bounds1 {d wd : ByteArray} {ft r tail acc t : List UInt8} (h : d.data.toList ++ 58 :: 32 :: (wd.data.toList ++ (ft ++ 10 :: r)) = tail) (ha : acc ++ tail = t) (ht : t.length ≤ 1000000) :
    (9223372036854775807 < d.size + 2) = False ∧ (9223372036854775807 < d.size + 2 + wd.size) = False ∧ (9223372036854775807 < (d ++ (⟨#[58, 32]⟩ : ByteArray)).size + wd.size) = False ∧ (Lib.byteCells acc).length + ((d ++ (⟨#[58, 32]⟩ : ByteArray)) ++ wd).size ≤ 140737488355328 ∧ Lib.byteCells acc ++ Lib.strCells ((d ++ (⟨#[58, 32]⟩ : ByteArray)) ++ wd) = Lib.byteCells (acc ++ (d.data.toList ++ 58 :: 32 :: wd.data.toList)) ∧ (acc ++ (d.data.toList ++ 58 :: 32 :: wd.data.toList)) ++ (ft ++ 10 :: r) = t := by
  have e1 : d.data.toList.length = d.size := by simp
  have e2 : wd.data.toList.length = wd.size := by simp
  have hl := congrArg List.length ha
  rw [← h] at hl
  simp only [List.length_append, List.length_cons, e1, e2] at hl
  have e3 : (⟨#[58, 32]⟩ : ByteArray).size = 2 := rfl
  refine ⟨eq_false (by omega), eq_false (by omega), eq_false (by rw [ByteArray.size_append]; omega), ?_, ?_, ?_⟩
  · rw [Lib.byteCells_length, ByteArray.size_append, ByteArray.size_append]; omega
  · rw [strCells_eq, ← Lib.byteCells_append]
    congr 2
    simp
  · rw [← ha, ← h]
    simp
theorem next_int (i : Nat) (h : i < 9223372036854775807) : Value.int .i64 (wrap64 ((i : Int) + 1)) = .int .i64 ((i + 1 : Nat) : Int) := by
  have : wrap64 ((i : Int) + 1) = ((i + 1 : Nat) : Int) := by unfold wrap64; omega
  rw [this]
/-- A row of whole numbers, in a block of its own. -/
def RowI (W : World) (A : Option Addr) (fs : List Int) : Prop := ReadsInt W .i64 A fs.length fs ∧ ∀ ad, A = some ad → ∃ cur fr, W.heap[ad.block]? = some (.cells cur 2 fr)
theorem rowI_of {W : World} {base : Nat} {A : Option Addr} {c : Nat} {ok : Nat → Prop} {fs : List Int} (h : Kd.R (Kd.int .i64) 2 W base ok (.slice A fs.length c) fs) : RowI W A fs := by
  have hr := (Kd.R_reads' h).2.2
  refine ⟨Kd.reads_of_C (enc := Value.int .i64) (d := (0 : Int)) (h1 := fun _ => rfl) hr, fun ad e => ?_⟩
  obtain ⟨_, inner, hown, _⟩ := h
  rcases hown.2 with ⟨hv, _⟩ | ⟨g, cap, cur, hv, _, hg, _⟩
  · injection hv with h1
    rw [e] at h1; cases h1
  · injection hv with h1
    rw [e] at h1
    injection h1 with h1
    subst h1
    exact ⟨cur, _, hg⟩
theorem rowI_below {W W' : World} {A : Option Addr} {fs : List Int} (h : RowI W A fs) (hb : Below W.heap.size W W') : RowI W' A fs :=
  ⟨h.1.below hb, fun ad e => by
    obtain ⟨cur, fr, hh⟩ := h.2 ad e
    exact ⟨cur, fr, blk_below hh hb⟩⟩
theorem rowI_kept {W W' : World} {A : Option Addr} {fs : List Int} {B b : Nat} {bs : List Value} (h : RowI W A fs) (hk : Lib.OthersKept 5 (some b) W W') (hI : Lib.IsBuilderF 103 5 B b bs W) : RowI W' A fs := by
  have hne : ∀ ad, A = some ad → ad.block ≠ b := fun ad e hab => by
    obtain ⟨cur, fr, hh⟩ := h.2 ad e
    rw [hab] at hh
    rcases hI with ⟨_, v, hbk, _⟩ | ⟨_, v, hbk, _⟩
    · rw [hbk] at hh; injection hh with hh; injection hh with _ h2; exact absurd h2 (by decide)
    · rw [hbk] at hh; injection hh with hh; injection hh with _ h2; exact absurd h2 (by decide)
  have hblk : ∀ ad, A = some ad → W'.heap[ad.block]? = W.heap[ad.block]? := fun ad e => by
    obtain ⟨cur, fr, hh⟩ := h.2 ad e
    rw [hh]
    refine hk ad.block _ hh (fun e2 => hne ad e (Option.some.inj e2)) (fun c fz e2 => ?_)
    injection e2 with _ h2
    exact absurd h2 (by decide)
  refine ⟨⟨h.1.1, h.1.2.1, fun hn => ?_⟩, fun ad e => ?_⟩
  · obtain ⟨ad, e, hc⟩ := h.1.2.2 hn
    refine ⟨ad, e, fun j hj => ?_⟩
    have := hc j hj
    simp only [World.cell?, add_block] at this ⊢
    rw [hblk ad e]
    exact this
  · obtain ⟨cur, fr, hh⟩ := h.2 ad e
    exact ⟨cur, fr, (hblk ad e).trans hh⟩
theorem bounds2 {d : ByteArray} {r2 r tail acc t : List UInt8} (h : 32 :: (d.data.toList ++ r2) = tail) (ha : acc ++ (tail ++ 10 :: r) = t) (ht : t.length ≤ 1000000) :
    (9223372036854775807 < 1 + d.size) = False ∧ (Lib.byteCells acc).length + ((⟨#[32]⟩ : ByteArray) ++ d).size ≤ 140737488355328 ∧ Lib.byteCells acc ++ Lib.strCells ((⟨#[32]⟩ : ByteArray) ++ d) = Lib.byteCells (acc ++ (32 :: d.data.toList)) ∧ (acc ++ (32 :: d.data.toList)) ++ (r2 ++ 10 :: r) = t := by
  have e1 : d.data.toList.length = d.size := by simp
  have hl := congrArg List.length ha
  rw [← h] at hl
  simp only [List.length_append, List.length_cons, e1] at hl
  have e3 : (⟨#[32]⟩ : ByteArray).size = 1 := rfl
  refine ⟨eq_false (by omega), ?_, ?_, ?_⟩
  · rw [Lib.byteCells_length, ByteArray.size_append]; omega
  · rw [strCells_eq, ← Lib.byteCells_append]
    congr 2
  · rw [← ha, ← h]
    simp
theorem bounds3 {r acc t : List UInt8} (ha : acc ++ ([] ++ 10 :: r) = t) (ht : t.length ≤ 1000000) :
    (Lib.byteCells acc).length + (⟨#[10]⟩ : ByteArray).size ≤ 140737488355328 ∧ Lib.byteCells acc ++ Lib.strCells (⟨#[10]⟩ : ByteArray) = Lib.byteCells (acc ++ [10]) ∧ (acc ++ [10]) ++ r = t := by
  have hl := congrArg List.length ha
  simp only [List.length_append, List.length_cons, List.length_nil] at hl
  have e3 : (⟨#[10]⟩ : ByteArray).size = 1 := rfl
  refine ⟨?_, ?_, ?_⟩
  · rw [Lib.byteCells_length]; omega
  · rw [strCells_eq, ← Lib.byteCells_append]
  · rw [← ha]; simp
theorem rd_at (fs : List Int) (q : Nat) (h : q < fs.length) : rd fs (q : Int) = fs[q] := by
  unfold rd
  simp [List.getD_eq_getElem?_getD, h]
theorem place13 (x : Int) (h : 1 ≤ x ∧ x ≤ 13) : ∃ j : Nat, x = (j : Int) + 1 ∧ j < 13 ∧ (x - 1).toNat = j ∧ wrap64 (j : Int) = (j : Int) ∧ (0 : Int) ≤ wrap64 (j : Int) ∧ wrap64 (j : Int) < 13 ∧ (0 : Int) ≤ (j : Int) ∧ (j : Int) < 13 := by
  refine ⟨(x - 1).toNat, ?_, ?_, rfl, ?_, ?_, ?_, ?_, ?_⟩ <;> (try unfold wrap64) <;> omega
def T8 : Bool × List (List Nat × List Nat) := (true, [([], []), ([0], [0]), ([1], [1]), ([], []), ([3], [3]), ([4], [4]), ([5], [5]), ([6], [6]), ([2, 7], [2, 7]), ([8, 1], [8])])
def B8 : List Nat := [0, 1, 3, 0, 8, 24, 56, 120, 255, 511]
theorem tab8 : rtab .any (opsOf Tryd.f28 8) = T8 := by kernel_rfl
theorem bits8 : waitsOk T8.2 B8 = true := by kernel_rfl
set_option maxHeartbeats 8000000 in
set_option maxRecDepth 100000 in
theorem graph_good (k : Nat) (A0 : Option Addr) (c0 : Nat) (l0 : GNs) (A1 : Option Addr) (c1 : Nat) (l1 : FLs) (t : List UInt8) (w : World) (hM : ML w) (hr0 : Kd.C k94 w A0 l0.length l0) (hc0 : l0.length ≤ c0) (hr1 : Kd.C k97 w A1 l1.length l1) (hc1 : l1.length ≤ c1)
    (hf : impl_GraphFault.f k l0 l1 = some 0) (ht : nodeT k l0 l1 l0.length 0 = some t) (htl : t.length ≤ 1000000) (hll : l0.length ≤ 1000000) :
    Calls Tryd.prog 28 #[.agg #[.slice A0 l0.length c0, .slice A1 l1.length c1]] w fun e w' => e = .returned (.agg #[.int .i64 0, .string (⟨t.toArray⟩ : ByteArray)]) ∧ Below w.heap.size w w' := by
  have hu55 := Tryd.underlying55
  have hu23 := Tryd.underlying23
  go_enter Tryd.func28, Tryd.ntmps28
  go_wp2_with (first
    | ((with_reducible refine gate_dst (N := 1) rfl ?_); refine box_event ?hg (N := 1) ?hd (cs := #[.slice A0 l0.length c0, .slice A1 l1.length c1]) (t := 55) ?hr ?_; (case hd => rfl); (case hg => rfl); (case hr => first | (go_simp; done) | (go_simp; rfl)); intro g1 hg1 w1 hx1 hb1; have ge1 : w.heap.size ≤ g1 := (by rw [hg1]; exact Nat.le_refl _); clear hg1)
    | ((with_reducible refine gate_dst (N := 2) rfl ?_); refine box_event ?hg (N := 2) ?hd (cs := #[.int .i64 0, .string (⟨#[]⟩ : ByteArray)]) (t := 23) ?hr ?_; (case hd => rfl); (case hg => rfl); (case hr => first | (go_simp; done) | (go_simp; rfl)); intro g2 hg2 w2 hx2 hb2; have hB2 : Below w.heap.size w w2 := below_step hb1 hb2; have x1 := blk_below hx1 hb2; have z1 : w2.cell? ⟨g1, 0, none⟩ = some (.slice A0 l0.length c0) := (blk_cell x1 0).trans rfl; have z2 : w2.cell? ⟨g1, 1, none⟩ = some (.slice A1 l1.length c1) := (blk_cell x1 1).trans rfl; have ge2 : w.heap.size ≤ g2 := (by rw [hg2]; exact hb1.size); have ne12 : g1 ≠ g2 := (by rw [hg2]; exact Nat.ne_of_lt (blk_lt hx1)); have ne21 := Ne.symm ne12; clear hg2)
    | (go_at_call 58; refine (impl_GraphFault.calls k A0 c0 l0 A1 c1 l1 0 _ (Kd.C_below hr0 hB2) hc0 (Kd.C_below hr1 hB2) hc1 hf).mono ?_; rintro e w3 ⟨rfl, hb3⟩; have hB3 := below_step hB2 hb3; have x13 := blk_below x1 hb3; have x23 := blk_below hx2 hb3)
    | ((with_reducible refine gate_dst (N := 4) rfl ?_); refine box_event ?hg (N := 4) ?hd (cs := #[.pointer none, .slice none 0 0]) (t := 103) ?hr ?_; (case hd => rfl); (case hg => rfl); (case hr => first | (go_simp; done) | (go_simp; rfl)); intro b hgb w4 hx4 hb4; have hB4 := below_step hB3 hb4; have x14 := blk_below x13 hb4; have x24 := blk_below x23 hb4; have z14 : w4.cell? ⟨g1, 0, none⟩ = some (.slice A0 l0.length c0) := (blk_cell x14 0).trans rfl; have z24 : w4.cell? ⟨g1, 1, none⟩ = some (.slice A1 l1.length c1) := (blk_cell x14 1).trans rfl; have geb : w.heap.size ≤ b := (by rw [hgb]; exact hB3.size); have neb1 : b ≠ g1 := (by rw [hgb]; exact Nat.ne_of_gt (blk_lt x13)); have neb2 : b ≠ g2 := (by rw [hgb]; exact Nat.ne_of_gt (blk_lt x23)); clear hgb))
  have hI4 : Lib.IsBuilderF 103 5 w.heap.size b (Lib.byteCells []) w4 := .inl ⟨geb, _, hx4, ⟨rfl, .inl ⟨rfl, rfl⟩⟩, by simp [Value.ownBlock]⟩
  go_loopg [18] (l0.length) (fun n v18 w' => ∃ (i : Nat) (acc tail : List UInt8), v18 = .int .i64 (i : Int) ∧ n + i = l0.length ∧ Aside0 (nodeT k l0 l1 n i = some tail) ∧ acc ++ tail = t ∧ Aside0 (Lib.IsBuilderF 103 5 w.heap.size b (Lib.byteCells acc) w') ∧ Aside0 (w'.heap[g1]? = some (.cells #[.slice A0 l0.length c0, .slice A1 l1.length c1] 55 (0, 0))) ∧ Aside0 (w'.heap[g2]? = some (.cells #[.int .i64 0, .string (⟨#[]⟩ : ByteArray)] 23 (0, 0))) ∧ Aside0 (Below w.heap.size w w'))
  case atStart => exact ⟨0, [], t, rfl, rfl, ⟨ht⟩, rfl, ⟨hI4⟩, ⟨x14⟩, ⟨x24⟩, ⟨hB4⟩⟩
  case round =>
    obtain ⟨i, acc, tail, rfl, hn, HT, hacc, HI, X1, X2, HB⟩ := hrel
    clear hB2 hB3 hB4 hI4 x1 x13 x14 x23 x24 z1 z2 z14 z24 hx1 hx2 hx4 hb1 hb2 hb3 hb4
    by_cases hi : i < l0.length
    · have p0 := eq_true (show (0 : Int) ≤ (i : Int) by omega)
      have p1 := eq_true (show (i : Int) < (l0.length : Int) by omega)
      have p1d : decide ((i : Int) < (l0.length : Int)) = true := decide_eq_true (by omega)
      obtain ⟨m, rfl⟩ : ∃ m, gk = m + 1 := ⟨gk - 1, by omega⟩
      have ht0 := HT.out
      simp only [nodeT] at ht0
      obtain ⟨d, hd, ht0⟩ := Option.bind_eq_some_iff.mp ht0
      by_cases hkd : 1 ≤ (rd_T94 l0 (i : Int)).f0 ∧ (rd_T94 l0 (i : Int)).f0 ≤ 13
      · rw [if_pos hkd] at ht0
        obtain ⟨fs, hfs, ht0⟩ := Option.bind_eq_some_iff.mp ht0
        obtain ⟨ft, hft, ht0⟩ := Option.bind_eq_some_iff.mp ht0
        obtain ⟨r, hr, ht0⟩ := Option.bind_eq_some_iff.mp ht0
        simp only [Option.some.injEq] at ht0
        obtain ⟨ad, A4, c4, rfl, e0, e1, e2, e3, e4, l4, k4⟩ := at_T94 hr0 (i : Int) (by omega) (by omega)
        have v0 := (HB.out.cell (World.block_lt_of_cell? w _ e0)).trans e0
        have v1 := (HB.out.cell (World.block_lt_of_cell? w _ e1)).trans e1
        have v2 := (HB.out.cell (World.block_lt_of_cell? w _ e2)).trans e2
        have v3 := (HB.out.cell (World.block_lt_of_cell? w _ e3)).trans e3
        have v4 := (HB.out.cell (World.block_lt_of_cell? w _ e4)).trans e4
        simp only [Int.toNat_natCast] at v0 v1 v2 v3 v4
        go_wp2_with (first
          | ((with_reducible refine gate_dst (N := 6) rfl ?_); refine box_event ?hg (N := 6) ?hd (cs := #[.int .i64 0, .int .i64 0, .string (⟨#[]⟩ : ByteArray), .int .i64 0, .slice none 0 0]) (t := 94) ?hr ?_; (case hd => rfl); (case hg => rfl); (case hr => first | (go_simp; done) | (go_simp; rfl)); intro nb hnb w5 hx5 hb5; have n0 : w5.cell? ⟨nb, 0, none⟩ = some (.int .i64 0) := (blk_cell hx5 0).trans rfl; have n1 : w5.cell? ⟨nb, 1, none⟩ = some (.int .i64 0) := (blk_cell hx5 1).trans rfl; have n2 : w5.cell? ⟨nb, 2, none⟩ = some (.string (⟨#[]⟩ : ByteArray)) := (blk_cell hx5 2).trans rfl; have n3 : w5.cell? ⟨nb, 3, none⟩ = some (.int .i64 0) := (blk_cell hx5 3).trans rfl; have n4 : w5.cell? ⟨nb, 4, none⟩ = some (.slice none 0 0) := (blk_cell hx5 4).trans rfl; have m0 := blk_frozen hx5 0; have m1 := blk_frozen hx5 1; have m2 := blk_frozen hx5 2; have m3 := blk_frozen hx5 3; have m4 := blk_frozen hx5 4; have gen2 : wr.heap.size ≤ nb := (by rw [hnb]; exact Nat.le_refl _); have nenb : nb ≠ b := (fun e => absurd (HI.out.elim (fun h => h.lt) (fun h => h.lt)) (by rw [← e]; exact Nat.not_lt.2 gen2)); clear hnb))
        have hbn := ((((hb5.setCell (p := ⟨nb, 0, none⟩) gen2 (.int .i64 (rd_T94 l0 (i : Int)).f0)).setCell (p := ⟨nb, 1, none⟩) gen2 (.int .i64 (rd_T94 l0 (i : Int)).f1)).setCell (p := ⟨nb, 2, none⟩) gen2 (.string (rd_T94 l0 (i : Int)).f2)).setCell (p := ⟨nb, 3, none⟩) gen2 (.int .i64 (rd_T94 l0 (i : Int)).f3)).setCell (p := ⟨nb, 4, none⟩) gen2 (.slice A4 (rd_T94 l0 (i : Int)).f4.length c4)
        have xn := blk_put (blk_put (blk_put (blk_put (blk_put hx5 0 (.int .i64 (rd_T94 l0 (i : Int)).f0) rfl) 1 (.int .i64 (rd_T94 l0 (i : Int)).f1) rfl) 2 (.string (rd_T94 l0 (i : Int)).f2) rfl) 3 (.int .i64 (rd_T94 l0 (i : Int)).f3) rfl) 4 (.slice A4 (rd_T94 l0 (i : Int)).f4.length c4) rfl
        clear n0 n1 n2 n3 n4 m0 m1 m2 m3 m4 v0 v1 v2 v3 v4 hx5 hb5
        generalize World.setCell _ ⟨nb, 4, none⟩ _ = Wn at hbn xn ⊢
        have HBn := below_step HB.out hbn
        have X1n := blk_below X1.out hbn
        have X2n := blk_below X2.out hbn
        have HIn := builder_below HI.out hbn
        have ck : Wn.cell? ⟨nb, 0, none⟩ = some (.int .i64 (rd_T94 l0 (i : Int)).f0) := (blk_cell xn 0).trans rfl
        have hMn := ML_below hM HBn
        obtain ⟨j, hj, hj13, hwj, wj, hpw0, hpw1, hpj0, hpj1⟩ := place13 _ hkd
        rw [hwj] at ht0
        rw [hj] at ck
        have cw := hMn.2 j hj13
        obtain ⟨wd, hwd, hwl⟩ : ∃ wd : ByteArray, (⟨(words.getD j []).toArray⟩ : ByteArray) = wd ∧ words.getD j [] = wd.data.toList := ⟨_, rfl, rfl⟩
        rw [hwd] at cw
        rw [hwl] at ht0
        obtain ⟨bd1, bd2, bd3, bd4, bd5, bd6⟩ := bounds1 ht0 hacc htl
        clear hwd hwl
        have pw0 := eq_true hpw0
        have pw1 := eq_true hpw1
        have pj0 := eq_true hpj0
        have pj1 := eq_true hpj1
        clear hpw0 hpw1 hpj0 hpj1
        try go_wp2
        refine start_ (n := 10) (S := fun w' => w'.cell? ⟨nb, 0, none⟩ = some (.int .i64 ((j : Int) + 1)) ∧ w'.cell? ⟨0, j, none⟩ = some (.string wd)) (ds := []) #[false, false, false, false, false, false, false, false, false, false] (by kernel_rfl) rfl rfl ⟨ck, cw⟩ (fun hHeld => ?_); refine with_tabW tab8 bits8 (fun HT_ HW_ => ?_)
        have HB8 := below_drew1 HBn
        have X18 := blk_drew X1n
        have X28 := blk_drew X2n
        have HI8 : Lib.IsBuilderF 103 5 w.heap.size b (Lib.byteCells acc) Wn.drew := HIn
        have hM8 := ML_drew hMn
        have xn8 := blk_drew xn
        clear hbn xn HBn X1n X2n HIn hMn ck cw
        generalize Wn.drew = W8 at hHeld HB8 X18 X28 HI8 hM8 xn8 ⊢
        refine pure_ (i := 0) (N := some 23) (v := ?_) (a' := ?_) #[true, false, false, false, false, false, false, false, false, false] rfl rfl (any_of HT_.out (by kernel_rfl)) (fun _ _ _ h => h) (Or.inl ⟨by rfl, ?_⟩) ?_ ?_
        rotate_left
        · intro w'
          go_simp
          with_reducible rfl
        rotate_left
        · simp only [Act.put, List.setIfInBounds_toArray, List.set_cons_zero, List.set_cons_succ, i64_w, i32_w]
          rfl
        refine pure_ (i := 3) (N := some 26) (v := ?_) (a' := ?_) #[true, false, false, true, false, false, false, false, false, false] rfl rfl (any_of HT_.out (by kernel_rfl)) (fun _ _ _ h => h) (Or.inl ⟨by rfl, ?_⟩) ?_ ?_
        rotate_left
        · intro w'
          go_simp
          with_reducible rfl
        rotate_left
        · simp only [Act.put, List.setIfInBounds_toArray, List.set_cons_zero, List.set_cons_succ, i64_w, i32_w]
          rfl
        refine take_ (i := 4) (N := some 27) (v := ?_) (a' := ?_) #[true, false, false, true, true, false, false, false, false, false] rfl rfl (take_ofW HT_.out HW_.out (by kernel_rfl)) (fun _ _ _ h => h) (Or.inl ⟨by rfl, ?_⟩) hHeld ?_ ?_
        rotate_left
        · rintro w' ⟨s0, s1⟩
          go_simp
          with_reducible rfl
        rotate_left
        · simp only [Act.put, List.setIfInBounds_toArray, List.set_cons_zero, List.set_cons_succ, i64_w, i32_w]
          rfl
        refine pure_ (i := 5) (N := some 28) (v := ?_) (a' := ?_) #[true, false, false, true, true, true, false, false, false, false] rfl rfl (any_of HT_.out (by kernel_rfl)) (fun _ _ _ h => h) (Or.inl ⟨by rfl, ?_⟩) ?_ ?_
        rotate_left
        · intro w'
          go_simp
          with_reducible rfl
        rotate_left
        · simp only [Act.put, List.setIfInBounds_toArray, List.set_cons_zero, List.set_cons_succ, i64_w, i32_w]
          rfl
        refine pure_ (i := 6) (N := some 29) (v := ?_) (a' := ?_) #[true, false, false, true, true, true, true, false, false, false] rfl rfl (any_of HT_.out (by kernel_rfl)) (fun _ _ _ h => h) (Or.inl ⟨by rfl, ?_⟩) ?_ ?_
        rotate_left
        · intro w'
          go_simp
          with_reducible rfl
        rotate_left
        · simp only [Act.put, List.setIfInBounds_toArray, List.set_cons_zero, List.set_cons_succ, i64_w, i32_w]
          rfl
        refine take_ (i := 7) (N := some 30) (v := ?_) (a' := ?_) #[true, false, false, true, true, true, true, true, false, false] rfl rfl (take_ofW HT_.out HW_.out (by kernel_rfl)) (fun _ _ _ h => h) (Or.inl ⟨by rfl, ?_⟩) hHeld ?_ ?_
        rotate_left
        · rintro w' ⟨s0, s1⟩
          go_simp
          with_reducible rfl
        rotate_left
        · simp only [Act.put, List.setIfInBounds_toArray, List.set_cons_zero, List.set_cons_succ, i64_w, i32_w]
          rfl
        refine one_ (i := 1) (N := some 24) #[true, true, false, true, true, true, true, true, false, false] rfl rfl (one_of HT_.out (by kernel_rfl)) (by decide) (fun K hK => ?_)
        refine goes_ Tryd.func60 (by kernel_rfl) rfl #[.int .i64 (i : Int)] (by rfl) rfl rfl (by (try simp only [List.map_toArray, List.map_cons, List.map_nil]); first | done | rfl | (simp only [List.length_drop, List.length_take]; rfl)) ?_
        with_reducible refine (impl_decimal.calls (i : Int) d _ hM8 hd).mono ?_
        rintro e w9 ⟨rfl, hb9⟩
        refine ⟨_, rfl, ?_⟩
        refine hK.out _ _ ⟨(hb9.cell (World.block_lt_of_cell? _ _ hHeld.1)).trans hHeld.1, (hb9.cell (World.block_lt_of_cell? _ _ hHeld.2)).trans hHeld.2⟩ (fun hHeld => ?_)
        clear hK K
        have HB9 := below_step HB8 hb9
        have X19 := blk_below X18 hb9
        have X29 := blk_below X28 hb9
        have HI9 := builder_below HI8 hb9
        have xn9 := blk_below xn8 hb9
        clear HB8 X18 X28 HI8 xn8 hM8 hb9
        refine norm_ (a' := ?_) ?_ ?_
        rotate_left
        · show Act.put _ (some 24) _ = _
          simp only [Act.put, List.setIfInBounds_toArray, List.set_cons_zero, List.set_cons_succ, i64_w, i32_w]
          rfl
        refine pure_ (i := 2) (N := some 25) (v := ?_) (a' := ?_) #[true, true, true, true, true, true, true, true, false, false] rfl rfl (any_of HT_.out (by kernel_rfl)) (fun _ _ _ h => h) (Or.inl ⟨by rfl, ?_⟩) ?_ ?_
        rotate_left
        · intro w'
          go_simp
          with_reducible rfl
        rotate_left
        · simp only [Act.put, List.setIfInBounds_toArray, List.set_cons_zero, List.set_cons_succ, i64_w, i32_w]
          rfl
        refine pure_ (i := 8) (N := some 31) (v := ?_) (a' := ?_) #[true, true, true, true, true, true, true, true, true, false] rfl rfl (any_of HT_.out (by kernel_rfl)) (fun _ _ _ h => h) (Or.inl ⟨by rfl, ?_⟩) ?_ ?_
        rotate_left
        · intro w'
          go_simp
          with_reducible rfl
        rotate_left
        · simp only [Act.put, List.setIfInBounds_toArray, List.set_cons_zero, List.set_cons_succ, i64_w, i32_w]
          rfl
        refine one_ (i := 9) (N := some 32) #[true, true, true, true, true, true, true, true, true, true] rfl rfl (one_of HT_.out (by kernel_rfl)) (by decide) (fun K hK => ?_)
        refine goes_ Tryd.func59 (by kernel_rfl) rfl #[.pointer (some ⟨b, 0, none⟩), .string ((d ++ (⟨#[58, 32]⟩ : ByteArray)) ++ wd)] (by rfl) rfl rfl (by (try simp only [List.map_toArray, List.map_cons, List.map_nil]); first | done | rfl | (simp only [List.length_drop, List.length_take]; rfl)) ?_
        refine (write_calls w.heap.size b _ _ _ HI9 bd4 HB9.size).mono ?_
        rintro e w10 ⟨rfl, HI10, hb10, hk10⟩
        refine ⟨_, rfl, ?_⟩
        have xn10 := hk10 nb _ xn9 (fun e => nenb (Option.some.inj e)) (fun c fz h => by injection h with _ h2; exact absurd h2 (by decide))
        refine hK.out _ _ ⟨(blk_cell xn10 0).trans (by rw [← hj]; rfl), (hb10.cell (World.block_lt_of_cell? w _ (hM.2 j hj13))).trans hHeld.2⟩ (fun hHeld => ?_)
        clear hK K
        have HB10 := HB9.trans hb10
        have X110 := hk10 g1 _ X19 (fun e => neb1 (Option.some.inj e).symm) (fun c fz h => by injection h with _ h2; exact absurd h2 (by decide))
        have X210 := hk10 g2 _ X29 (fun e => neb2 (Option.some.inj e).symm) (fun c fz h => by injection h with _ h2; exact absurd h2 (by decide))
        rw [bd5] at HI10
        clear HB9 X19 X29 HI9 xn9 xn10 hb10 hk10
        refine norm_ (a' := ?_) ?_ ?_
        rotate_left
        · show Act.put _ (some 32) _ = _
          simp only [Act.put, List.setIfInBounds_toArray, List.set_cons_zero, List.set_cons_succ, i64_w, i32_w]
          rfl
        refine done_ (done_of HT_.out (by kernel_rfl)) ?_
        have z1 : w10.cell? ⟨g1, 0, none⟩ = some (.slice (some ad) l0.length c0) := (blk_cell X110 0).trans rfl
        have z2 : w10.cell? ⟨g1, 1, none⟩ = some (.slice A1 l1.length c1) := (blk_cell X110 1).trans rfl
        clear HT_ HW_ hHeld
        go_wp2_with (go_at_call 61; refine (impl_Graph_flowsFrom.calls k (some ad) c0 l0 A1 c1 l1 (i : Int) fs _ (Kd.C_below hr0 HB10) hc0 (Kd.C_below hr1 HB10) hc1 hfs).mono ?_)
        rintro e w11 ⟨v0, rfl, hv0, hb11⟩
        obtain ⟨A5, c5, rfl⟩ := Kd.R_slice hv0
        have HF := rowI_of hv0
        have hc5 := (Kd.R_reads' hv0).2.1
        have HB11 := below_step HB10 hb11
        have X111 := blk_below X110 hb11
        have X211 := blk_below X210 hb11
        have HI11 := builder_below HI10 hb11
        clear z1 z2 HB10 X110 X210 HI10 hv0 hb11 HI X1 X2 HB HT bd1 bd2 bd3 bd4 bd5
        go_wp2_with fail
        go_loopg [37] (fs.length) (fun n v37 w' => ∃ (q : Nat) (acc2 tail2 : List UInt8), v37 = .int .i64 (q : Int) ∧ n + q = fs.length ∧ Aside0 (flowT l1 (fs.drop q) = some tail2) ∧ acc2 ++ (tail2 ++ 10 :: r) = t ∧ Aside0 (Lib.IsBuilderF 103 5 w.heap.size b (Lib.byteCells acc2) w') ∧ Aside0 (RowI w' A5 fs) ∧ Aside0 (w'.heap[g1]? = some (.cells #[.slice (some ad) l0.length c0, .slice A1 l1.length c1] 55 (0, 0))) ∧ Aside0 (w'.heap[g2]? = some (.cells #[.int .i64 0, .string (⟨#[]⟩ : ByteArray)] 23 (0, 0))) ∧ Aside0 (Below w.heap.size w w'))
        case atStart => exact ⟨0, _, ft, rfl, rfl, ⟨by rw [List.drop_zero]; exact hft⟩, bd6, ⟨HI11⟩, ⟨HF⟩, ⟨X111⟩, ⟨X211⟩, ⟨HB11⟩⟩
        case round =>
          obtain ⟨q, acc2, tail2, rfl, hq, HT2, hacc2, HI2, HR2, X12, X22, HB2⟩ := hrel
          clear HF X111 X211 HI11 HB11
          have z1 : wr.cell? ⟨g1, 0, none⟩ = some (.slice (some ad) l0.length c0) := (blk_cell X12.out 0).trans rfl
          have z2 : wr.cell? ⟨g1, 1, none⟩ = some (.slice A1 l1.length c1) := (blk_cell X12.out 1).trans rfl
          by_cases hqi : q < fs.length
          · have ht2 := HT2.out
            rw [List.drop_eq_getElem_cons hqi] at ht2
            simp only [flowT] at ht2
            have r0 := eq_true (Int.natCast_nonneg q)
            have r1 := eq_true (Int.ofNat_lt.2 hqi)
            have r1d : decide ((q : Int) < (fs.length : Int)) = true := decide_eq_true (Int.ofNat_lt.2 hqi)
            obtain ⟨m2, rfl⟩ : ∃ m2, gk = m2 + 1 := ⟨gk - 1, by omega⟩
            obtain ⟨ad5, rfl, hc6⟩ := HR2.out.1.at_ (q : Int) (Int.natCast_nonneg q) (Int.ofNat_lt.2 hqi)
            rw [rd_at fs q hqi, Int.toNat_natCast] at hc6
            by_cases hfr : 0 ≤ fs[q] ∧ fs[q] < (l1.length : Int)
            · rw [if_pos hfr] at ht2
              obtain ⟨d2, hd2, ht2⟩ := Option.bind_eq_some_iff.mp ht2
              obtain ⟨r2, hr2, ht2⟩ := Option.bind_eq_some_iff.mp ht2
              simp only [Option.some.injEq] at ht2
              obtain ⟨be1, be2, be3, be4⟩ := bounds2 ht2 hacc2 htl
              obtain ⟨ad1, A6, c6, rfl, g0', g1', g2', l6', k6'⟩ := at_T97 hr1 fs[q] hfr.1 hfr.2
              have u0' := (HB2.out.cell (World.block_lt_of_cell? w _ g1')).trans g1'
              have f0 := eq_true hfr.1
              have f1 := eq_true hfr.2
              clear g0' g1' g2' l6' k6'
              go_wp2_with (first
                | (go_at_call 60; refine (impl_decimal.calls _ d2 _ (ML_below hM HB2.out) hd2).mono ?_; rintro e w13 ⟨rfl, hb13⟩; have HB13 := below_step HB2.out hb13; have X113 := blk_below X12.out hb13; have X213 := blk_below X22.out hb13; have HI13 := builder_below HI2.out hb13; have HR13 := rowI_below HR2.out hb13)
                | (go_at_call 59; refine (write_calls w.heap.size b _ _ _ HI13 be2 HB13.size).mono ?_; rintro e w14 ⟨rfl, HI14, hb14, hk14⟩))
              rw [be3] at HI14
              have X114 := hk14 g1 _ X113 (fun e => neb1 (Option.some.inj e).symm) (fun c fz h => by injection h with _ h2; exact absurd h2 (by decide))
              have X214 := hk14 g2 _ X213 (fun e => neb2 (Option.some.inj e).symm) (fun c fz h => by injection h with _ h2; exact absurd h2 (by decide))
              have HR14 := rowI_kept HR13 hk14 HI13
              have HB14 := HB13.trans hb14
              have hqb := Nat.lt_of_lt_of_le hqi HR2.out.1.2.1
              go_roundg m2
              case measure => exact Nat.lt_succ_self m2
              case rel => exact ⟨q + 1, _, r2, (by first | rfl | exact next_int q hqb), by omega, ⟨hr2⟩, be4, ⟨HI14⟩, ⟨HR14⟩, ⟨X114⟩, ⟨X214⟩, ⟨HB14⟩⟩
            · rw [if_neg hfr] at ht2; cases ht2
          · have r1d : decide ((q : Int) < (fs.length : Int)) = false := decide_eq_false (by omega)
            obtain rfl : gk = 0 := by omega
            have ht2 := HT2.out
            rw [List.drop_eq_nil_of_le (by omega)] at ht2
            simp only [flowT, Option.some.injEq] at ht2
            subst ht2
            obtain ⟨be1, be2, be3⟩ := bounds3 hacc2 htl
            go_wp2_with (go_at_call 59; refine (write_calls w.heap.size b _ _ _ HI2.out be1 HB2.out.size).mono ?_)
            rintro e w14 ⟨rfl, HI14, hb14, hk14⟩
            go_wp2
            rw [be2] at HI14
            have X114 := hk14 g1 _ X12.out (fun e => neb1 (Option.some.inj e).symm) (fun c fz h => by injection h with _ h2; exact absurd h2 (by decide))
            have X214 := hk14 g2 _ X22.out (fun e => neb2 (Option.some.inj e).symm) (fun c fz h => by injection h with _ h2; exact absurd h2 (by decide))
            have HB14 := HB2.out.trans hb14
            have hib : i < 9223372036854775807 := Nat.lt_of_lt_of_le hi (Nat.le_trans hll (by decide))
            go_roundg m
            case measure => exact Nat.lt_succ_self m
            case rel => exact ⟨i + 1, _, r, (by first | rfl | exact next_int i hib), by omega, ⟨hr⟩, be3, ⟨HI14⟩, ⟨X114⟩, ⟨X214⟩, ⟨HB14⟩⟩
      · rw [if_neg hkd] at ht0; cases ht0
    · have p1d : decide ((i : Int) < (l0.length : Int)) = false := decide_eq_false (by omega)
      obtain rfl : gk = 0 := by omega
      have ht0 := HT.out
      simp only [nodeT, Option.some.injEq] at ht0
      subst ht0
      rw [List.append_nil] at hacc
      subst hacc
      go_wp2_with (go_at_call 62; refine (Tryd.Builder_String_any_k w.heap.size b acc _ HI.out HB.out.size).mono ?_)
      rintro e w9 ⟨rfl, hI9, hb9, hk9⟩
      have hB9 := HB.out.trans hb9
      have x2 := hk9 g2 _ X2.out (by simpa using Ne.symm neb2) (fun c fz h => by cases h)
      have y0 : w9.cell? ⟨g2, 0, none⟩ = some (.int .i64 0) := (blk_cell x2 0).trans rfl
      have y1 : w9.cell? ⟨g2, 1, none⟩ = some (.string (⟨#[]⟩ : ByteArray)) := (blk_cell x2 1).trans rfl
      have q0 := blk_frozen x2 0
      have q1 := blk_frozen x2 1
      go_wp2
      refine bodyPost_ret (results_cell_row rfl _ _ g2 23 #[.int .i64 0, .string (⟨acc.toArray⟩ : ByteArray)] (0, 0) _ rfl (by (with_reducible repeat (first | refine blk_drewN ?_ _ | refine blk_drew ?_ | refine blk_alloc ?_ _)); refine blk_put (cs := #[.int .i64 0, .string (⟨#[]⟩ : ByteArray)]) ?_ 1 _ rfl; (with_reducible repeat (first | refine blk_drewN ?_ _ | refine blk_drew ?_ | refine blk_alloc ?_ _)); refine blk_put (cs := #[.int .i64 0, .string (⟨#[]⟩ : ByteArray)]) ?_ 0 _ rfl; (with_reducible repeat (first | refine blk_drewN ?_ _ | refine blk_drew ?_ | refine blk_alloc ?_ _)); exact x2) Tryd.underlying23 rfl (by kernel_rfl)) rfl ?_
      exact ⟨rfl, by repeat (first | (with_reducible first | exact hB9 | apply below_alloc | apply pw_below_drewN | apply below_drew1 | refine below_set ?_ ge2) | exact hB9)⟩
theorem impl_GraphText.calls (k : Nat) (A0 : Option Addr) (c0 : Nat) (l0 : GNs) (A1 : Option Addr) (c1 : Nat) (l1 : FLs) (r1 : Int) (r2 : ByteArray) (w : World) (hM : ML w) (hr0 : Kd.C k94 w A0 l0.length l0) (hc0 : l0.length ≤ c0) (hr1 : Kd.C k97 w A1 l1.length l1) (hc1 : l1.length ≤ c1) (h : impl_GraphText.f k l0 l1 = some (r1, r2)) :
    Calls Tryd.prog 28 #[.agg #[.slice A0 l0.length c0, .slice A1 l1.length c1]] w fun e w' => e = .returned (.agg #[.int .i64 r1, .string r2]) ∧ Below w.heap.size w w' := by
  unfold impl_GraphText.f at h
  obtain ⟨c, hf, h⟩ := Option.bind_eq_some_iff.mp h
  by_cases h0 : c = 0
  · subst h0
    rw [if_pos rfl] at h
    obtain ⟨t, ht, h⟩ := Option.bind_eq_some_iff.mp h
    by_cases hs : t.length ≤ 1000000 ∧ l0.length ≤ 1000000
    · rw [if_pos hs] at h
      simp only [Option.some.injEq, Prod.mk.injEq] at h
      obtain ⟨rfl, rfl⟩ := h
      exact graph_good k A0 c0 l0 A1 c1 l1 t w hM hr0 hc0 hr1 hc1 hf ht hs.1 hs.2
    · rw [if_neg hs] at h; cases h
  · rw [if_neg h0] at h
    simp only [Option.some.injEq, Prod.mk.injEq] at h
    obtain ⟨rfl, rfl⟩ := h
    exact graph_bad k A0 c0 l0 A1 c1 l1 _ w hr0 hc0 hr1 hc1 hf h0
end Go.Proofs.YtmppibhdnajjjaaDoor.G
