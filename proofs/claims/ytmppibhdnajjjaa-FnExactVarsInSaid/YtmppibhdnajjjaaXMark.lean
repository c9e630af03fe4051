/- Words for calls that write into all of a row, and into the rows that its elements lead to: what stays is each block's type and size. No condition. -/
import Derived.Test.YtmppibhdnajjjaaXWords
import Derived.Test.YtmppibhdnajjjaaWKept
namespace Go.Proofs.Ytmppibhdnajjjaa
open Go.RowKit Go.Proofs.YtmppibhdnajjjaaW.PrintWords Go.Proofs.YtmppibhdnajjjaaW.PrintLast Go.Proofs.YtmppibhdnajjjaaW.PrintMore
/-- Blocks keep their type and their size. -/
def Shape (w w' : World) : Prop := ∀ (g : Nat) (cur : Array Value) (e : TypeId), w.heap[g]? = some (.cells cur e (0, 0)) → ∃ cur', w'.heap[g]? = some (.cells cur' e (0, 0)) ∧ cur'.size = cur.size
/-- A row whose cells are there. -/
def WrI (w : World) (base : Nat) (e : TypeId) (sz : Nat) (v : Value) (n : Nat) : Prop := ∃ A cap, v = .slice A n cap ∧ n ≤ cap ∧ n ≤ 9223372036854775807 ∧ (0 < n → ∃ g cur, A = some ⟨g, 0, none⟩ ∧ base ≤ g ∧ w.heap[g]? = some (.cells cur e (0, 0)) ∧ n * sz ≤ cur.size)
/-- The blocks of these types that are new since. -/
def Mk (w : World) (base : Nat) (ts : List TypeId) (k : Nat) : Prop := base ≤ k ∧ ∃ q, q ∈ ts ∧ ∃ cur, w.heap[k]? = some (.cells cur q (0, 0))
structure Chg (base : Nat) (ts : List TypeId) (w w' : World) : Prop where
  shape : Shape w w'
  below : Below base w w'
  kept : Kept w w' (Mk w base ts)
theorem cells_inj {cur cur' : Array Value} {e e' : TypeId} (h : some (Obj.cells cur e (0, 0)) = some (Obj.cells cur' e' (0, 0))) : cur = cur' ∧ e = e' := by
  injection h with h
  injection h with h1 h2
  exact ⟨h1, h2⟩
section
variable {base : Nat} {ts ts' : List TypeId} {w w1 w2 : World}
theorem Shape.refl (w : World) : Shape w w := fun _ cur _ h => ⟨cur, h, rfl⟩
theorem Shape.trans (h : Shape w w1) (k : Shape w1 w2) : Shape w w2 := fun g cur e hb => by
  obtain ⟨c1, h1, s1⟩ := h g cur e hb
  obtain ⟨c2, h2, s2⟩ := k g c1 e h1
  exact ⟨c2, h2, s2.trans s1⟩
theorem Chg.refl (base : Nat) (ts : List TypeId) (w : World) : Chg base ts w w := ⟨Shape.refl w, Below.refl _ _, Kept.refl _ _⟩
theorem Mk_back (h : Chg base ts w w1) {k : Nat} (hk : k < w.heap.size) (hm : Mk w1 base ts k) : Mk w base ts k := by
  by_cases hn : Mk w base ts k
  · exact hn
  · obtain ⟨hb, q, hq, cur, hc⟩ := hm
    rw [h.kept.2 k hk hn] at hc
    exact ⟨hb, q, hq, cur, hc⟩
theorem Chg.trans (h : Chg base ts w w1) (k : Chg base ts w1 w2) : Chg base ts w w2 :=
  ⟨h.shape.trans k.shape, h.below.trans k.below, ⟨Nat.le_trans h.kept.1 k.kept.1, fun i hi hn => (k.kept.2 i (Nat.lt_of_lt_of_le hi h.kept.1) (fun hm => hn (Mk_back h hi hm))).trans (h.kept.2 i hi hn)⟩⟩
theorem Chg.mono (h : Chg base ts w w1) (hs : ∀ q, q ∈ ts → q ∈ ts') : Chg base ts' w w1 :=
  ⟨h.shape, h.below, h.kept.mono (fun _ ⟨hb, q, hq, hc⟩ => ⟨hb, q, hs q hq, hc⟩)⟩
/-- What only makes. -/
theorem Chg.made (hb : Below w.heap.size w w1) (hle : base ≤ w.heap.size) : Chg base ts w w1 :=
  ⟨fun g cur e hc => ⟨cur, (hb.block g (blk_lt hc)).trans hc, rfl⟩, ⟨hb.os, hb.tape, hb.output, hb.size, fun k hk => hb.block k (by omega)⟩, Kept.of_below hb _⟩
theorem set_blk {g : Nat} {cur : Array Value} {e : TypeId} (hb : w.heap[g]? = some (.cells cur e (0, 0))) (off : Nat) (v : Value) : (w.setCell ⟨g, off, none⟩ v).heap[g]? = some (.cells (cur.setIfInBounds off v) e (0, 0)) := blk_put hb off v rfl
theorem Chg.set {g : Nat} {cur : Array Value} {e : TypeId} (hb : w.heap[g]? = some (.cells cur e (0, 0))) (hg : base ≤ g) (he : e ∈ ts) (off : Nat) (v : Value) : Chg base ts w (w.setCell ⟨g, off, none⟩ v) := by
  refine ⟨fun g' cur' e' hc => ?_, ?_, ?_⟩
  · by_cases h : g' = g
    · subst h
      obtain ⟨rfl, rfl⟩ := cells_inj (hb.symm.trans hc)
      exact ⟨_, set_blk hb off v, by simp⟩
    · exact ⟨cur', blk_far hc (p := ⟨g, off, none⟩) h v, rfl⟩
  · exact (Below.refl base w).setCell hg v
  · exact (Kept.refl w _).setCell (p := ⟨g, off, none⟩) (.inl ⟨hg, e, he, cur, hb⟩) v
theorem WrI.move {e : TypeId} {sz n : Nat} {v : Value} (h : WrI w base e sz v n) (k : Shape w w1) : WrI w1 base e sz v n := by
  obtain ⟨A, cap, rfl, h1, h2, h3⟩ := h
  refine ⟨A, cap, rfl, h1, h2, fun hn => ?_⟩
  obtain ⟨g, cur, rfl, hb, hc, hs⟩ := h3 hn
  obtain ⟨c', hc', hs'⟩ := k g cur e hc
  exact ⟨g, c', rfl, hb, hc', by omega⟩
/-- A row of the call's own can be written into. -/
theorem R_WrI {α : Type} {d : Kd α} {e : TypeId} {ok : Nat → Prop} {v : Value} {xs : List α} (h : d.R e w base ok v xs) : WrI w base e d.sz v xs.length := by
  obtain ⟨h0, inner, ho, hr⟩ := h
  obtain ⟨hl, ho⟩ := ho
  rcases ho with ⟨rfl, hn⟩ | ⟨g, cap, cur, rfl, hg, hc, h1, h2, h3, h4⟩
  · refine ⟨none, 0, by rw [hn], by omega, by omega, fun hp => by omega⟩
  · refine ⟨some ⟨g, 0, none⟩, cap, rfl, h1, Nat.le_trans h1 (Nat.le_trans h2 (by decide)), fun _ => ⟨g, cur, rfl, hg, hc, ?_⟩⟩
    rw [h3]
    exact Nat.mul_le_mul_right _ h1
/-- A row that no block of these types belongs to stays as it is. -/
theorem R_Mk {α : Type} {d : Kd α} {e b : Nat} {ok : Nat → Prop} {v : Value} {xs : List α} (h : d.R e w b ok v xs) (hk : Kept w w1 (Mk w base ts)) (hne : ∀ q, q ∈ e :: d.E → q ∉ ts) : d.R e w1 b ok v xs :=
  Kd.R_mono (Kd.R_kept (Kd.R_bound h) hk (fun k hk hm => by
    obtain ⟨_, _, _, q, hq, cells, hc⟩ := hk
    obtain ⟨_, q', hq', cur, hc'⟩ := hm
    obtain ⟨_, rfl⟩ := cells_inj (hc.symm.trans hc')
    exact hne q hq hq')) (fun _ h => h.1)
theorem blk_Mk {g : Nat} {cs : Array Value} {t : TypeId} (h : w.heap[g]? = some (.cells cs t (0, 0))) (hk : Kept w w1 (Mk w base ts)) (hne : t ∉ ts) : w1.heap[g]? = some (.cells cs t (0, 0)) :=
  blk_kept h hk (fun ⟨_, q, hq, cur, hc⟩ => by
    obtain ⟨_, rfl⟩ := cells_inj (h.symm.trans hc)
    exact hne hq)
end
theorem wr_at {w : World} {g : Nat} {cur : Array Value} {e : TypeId} (hb : w.heap[g]? = some (.cells cur e (0, 0))) {off : Nat} (ho : off < cur.size) : w.cell? ⟨g, off, none⟩ = some (cur[off]'ho) := by
  rw [blk_cell hb off, Array.getElem?_eq_getElem ho]
/-- k, counted up by one, m times. -/
def ups : Nat → Int → Int
  | 0, k => k
  | m + 1, k => wrap64 (ups m k + 1)
theorem ups_le : ∀ (m : Nat) (k : Int), k ≤ 9223372036854775807 → ups m k ≤ 9223372036854775807
  | 0, _, h => h
  | m + 1, k, _ => by unfold ups wrap64; omega
theorem ups_add (a : Nat) : ∀ (b : Nat) (k : Int), ups (b + a) k = ups b (ups a k)
  | 0, k => by rw [Nat.zero_add]; rfl
  | b + 1, k => by rw [Nat.add_right_comm, ups, ups_add a b k, ups]
end Go.Proofs.Ytmppibhdnajjjaa
namespace Go.Proofs.Ytmppibhdnajjjaa
open Go.RowKit Go.Proofs.YtmppibhdnajjjaaW.PrintWords Go.Proofs.YtmppibhdnajjjaaW.PrintLast Go.Proofs.YtmppibhdnajjjaaW.PrintMore
/-- The cells of these fields are as they were. -/
def Outer (g sz : Nat) (fs : List Nat) (w w' : World) : Prop := ∀ i f, f ∈ fs → w'.cell? ⟨g, i * sz + f, none⟩ = w.cell? ⟨g, i * sz + f, none⟩
theorem Outer.refl (g sz : Nat) (fs : List Nat) (w : World) : Outer g sz fs w w := fun _ _ _ => rfl
theorem off_ne {i j f f' sz : Nat} (hf : f < sz) (hf' : f' < sz) (hne : f ≠ f') : i * sz + f ≠ j * sz + f' := by
  intro h
  have h1 : (i * sz + f) % sz = f := by rw [Nat.mul_comm, Nat.mul_add_mod]; exact Nat.mod_eq_of_lt hf
  have h2 : (j * sz + f') % sz = f' := by rw [Nat.mul_comm, Nat.mul_add_mod]; exact Nat.mod_eq_of_lt hf'
  rw [h, h2] at h1
  exact hne h1.symm
theorem Outer.set {g sz i f : Nat} {fs : List Nat} {w w1 : World} {cur : Array Value} {e : TypeId} (h : Outer g sz fs w w1) (hb : w1.heap[g]? = some (.cells cur e (0, 0))) (hn : f ∉ fs) (hf : f < sz) (hfs : ∀ q ∈ fs, q < sz) (v : Value) : Outer g sz fs w (w1.setCell ⟨g, i * sz + f, none⟩ v) := fun i' f' hf' => by
  rw [← h i' f' hf', blk_cell (set_blk hb _ v), blk_cell hb]
  exact Array.getElem?_setIfInBounds_ne (off_ne hf (hfs f' hf') (fun e_ => hn (e_ ▸ hf')))
theorem Outer.made {g sz : Nat} {fs : List Nat} {w w1 w2 : World} (h : Outer g sz fs w w1) {cur : Array Value} {e : TypeId} (hg : w1.heap[g]? = some (.cells cur e (0, 0))) (hb : Below w1.heap.size w1 w2) : Outer g sz fs w w2 := fun i f hf => by
  rw [← h i f hf, blk_cell (blk_below hg hb), blk_cell hg]
theorem Outer.call {g sz base : Nat} {fs : List Nat} {ts : List TypeId} {w w1 w2 : World} {cur : Array Value} {e : TypeId} (h : Outer g sz fs w w1) (hb : w1.heap[g]? = some (.cells cur e (0, 0))) (hc : Chg base ts w1 w2) (hn : e ∉ ts) : Outer g sz fs w w2 := fun i f hf => by
  rw [← h i f hf, blk_cell (blk_Mk hb hc.kept hn), blk_cell hb]
end Go.Proofs.Ytmppibhdnajjjaa
