/- What a world holds of a replacer of single bytes: its table, its row of patterns, the rows of what they are turned to. No condition but what each states. -/
import Derived.Test.YthoamjobclfjjaaGreatDoorXWords
import Derived.Test.YthoamjobclfjjaaGreatDoorProg
import Derived.Laws.Tables
import Derived.Lib.SliceRun
import Derived.Laws.Cover3
namespace Go.Proofs.YthoamjobclfjjaaGreatDoor.K
set_option linter.unusedVariables false
set_option linter.unusedSimpArgs false
open Go.RowKit Go.Proofs.YthoamjobclfjjaaGreatDoor Go.Proofs.YthoamjobclfjjaaGreatDoorW.PrintWords Go.Proofs.YthoamjobclfjjaaGreatDoorW.PrintLast Go.Proofs.YthoamjobclfjjaaGreatDoorW.PrintMore
theorem rqInfo9 : (Tryz.prog.info? 9).map (fun i => (i.zero, i.size, i.bytes)) = some (some (.string ByteArray.empty), 1, 16) := by kernel_rfl
structure Rep (B : Nat) (W : World) (g tr : Nat) (L : List (UInt8 × ByteArray)) : Prop where
  bg : B ≤ g
  bt : B ≤ tr
  ne : g ≠ tr
  row : ∃ cg, W.heap[g]? = some (.cells cg 106 (0, 0)) ∧ cg.size = 257 ∧ cg[256]? = some (.slice (some ⟨tr, 0, none⟩) L.length 4) ∧ (∀ b : Nat, b < 256 → (∀ p ∈ L, p.1.toNat ≠ b) → cg[b]? = some (.slice none 0 0)) ∧
    (∀ p ∈ L, ∃ r c, cg[p.1.toNat]? = some (.slice (some ⟨r, 0, none⟩) p.2.size c) ∧ B ≤ r ∧ r < W.heap.size ∧ r ≠ g ∧ r ≠ tr ∧ ∀ j, j < p.2.size → W.cell? ⟨r, j, none⟩ = some (.int .u8 (p.2.data.toList.getD j 0).toNat))
  tt : ∃ ct, W.heap[tr]? = some (.cells ct 9 (0, 0)) ∧ ct.size = 4 ∧ ∀ (i : Nat) p, L[i]? = some p → ct[i]? = some (.string ⟨#[p.1]⟩)
theorem Rep.keep {B : Nat} {W W' : World} {g tr : Nat} {L : List (UInt8 × ByteArray)} (h : Rep B W g tr L) (hs : W.heap.size ≤ W'.heap.size) (hk : ∀ b, B ≤ b → b < W.heap.size → W'.heap[b]? = W.heap[b]?) : Rep B W' g tr L := by
  obtain ⟨h1, h2, h3, ⟨cg, a1, a2, a3, a4, a5⟩, ⟨ct, b1, b2, b3⟩⟩ := h
  have lg : g < W.heap.size := (Array.getElem?_eq_some_iff.1 a1).1
  have lt : tr < W.heap.size := (Array.getElem?_eq_some_iff.1 b1).1
  refine ⟨h1, h2, h3, ⟨cg, (hk g h1 lg).trans a1, a2, a3, a4, fun p hp => ?_⟩, ⟨ct, (hk tr h2 lt).trans b1, b2, b3⟩⟩
  obtain ⟨r, c, c1, c2, c3, c4, c5, c6⟩ := a5 p hp
  exact ⟨r, c, c1, c2, by omega, c4, c5, fun j hj => (World.cell?_of_block (hk r c2 c3)).trans (c6 j hj)⟩
theorem Rep.below {B : Nat} {W W' : World} {g tr : Nat} {L : List (UInt8 × ByteArray)} (h : Rep B W g tr L) (hb : Below W.heap.size W W') : Rep B W' g tr L := h.keep hb.size (fun b _ hlt => hb.block b hlt)
/-- A cell elsewhere is set. -/
theorem Rep.far {B : Nat} {W : World} {g tr : Nat} {L : List (UInt8 × ByteArray)} (h : Rep B W g tr L) (a : Addr) (ha : a.block < B) (v : Value) : Rep B (W.setCell a v) g tr L := h.keep (by simp) (fun b hb _ => heap_setCell_other W a b v (by omega))
theorem Rep.nil {B : Nat} {W : World} {g tr : Nat} {L : List (UInt8 × ByteArray)} (h : Rep B W g tr L) (b : Nat) (hb : b < 256) (hn : ∀ p ∈ L, p.1.toNat ≠ b) : W.cell? ⟨g, b, none⟩ = some (.slice none 0 0) := by
  obtain ⟨cg, a1, a2, a3, a4, a5⟩ := h.row
  simp only [World.cell?, a1]
  exact a4 b hb hn
theorem Rep.pats {B : Nat} {W : World} {g tr : Nat} {L : List (UInt8 × ByteArray)} (h : Rep B W g tr L) : W.cell? ⟨g, 256, none⟩ = some (.slice (some ⟨tr, 0, none⟩) L.length 4) := by
  obtain ⟨cg, a1, a2, a3, a4, a5⟩ := h.row
  simp only [World.cell?, a1]
  exact a3
theorem Rep.free {B : Nat} {W : World} {g tr : Nat} {L : List (UInt8 × ByteArray)} (h : Rep B W g tr L) (b : Nat) : W.frozen? ⟨g, b, none⟩ = false := by
  obtain ⟨cg, a1, _⟩ := h.row
  exact frozen_of_row W g b cg _ a1
theorem Rep.freeT {B : Nat} {W : World} {g tr : Nat} {L : List (UInt8 × ByteArray)} (h : Rep B W g tr L) (b : Nat) : W.frozen? ⟨tr, b, none⟩ = false := by
  obtain ⟨ct, a1, _⟩ := h.tt
  exact frozen_of_row W tr b ct _ a1
theorem Rep.pat {B : Nat} {W : World} {g tr : Nat} {L : List (UInt8 × ByteArray)} (h : Rep B W g tr L) (i : Nat) (p : UInt8 × ByteArray) (hi : L[i]? = some p) : W.cell? ⟨tr, i, none⟩ = some (.string ⟨#[p.1]⟩) := by
  obtain ⟨ct, a1, a2, a3⟩ := h.tt
  simp only [World.cell?, a1]
  exact a3 i p hi
/-- The next pattern: its string behind the others, what it is turned to in its place. -/
theorem Rep.step {B : Nat} {W : World} {g tr : Nat} {L : List (UInt8 × ByteArray)} (h : Rep B W g tr L) (hl : L.length < 4) (b : UInt8) (t : ByteArray) (hn : ∀ p ∈ L, p.1 ≠ b) (w : World) (hB : Below B w W)
    (W4 : World) (h4 : W4 = (W.setCell ⟨tr, L.length, none⟩ (.string ⟨#[b]⟩)).setCell ⟨g, 256, none⟩ (.slice (some ⟨tr, 0, none⟩) (L.length + 1) 4)) :
    Rep B ((Lib.bytesWorld W4 5 t).setCell ⟨g, b.toNat, none⟩ (.slice (some ⟨W4.heap.size, 0, none⟩) t.size (grownCap W4 t.size 0 5))) g tr (L ++ [(b, t)]) ∧
    Below B w ((Lib.bytesWorld W4 5 t).setCell ⟨g, b.toNat, none⟩ (.slice (some ⟨W4.heap.size, 0, none⟩) t.size (grownCap W4 t.size 0 5))) := by
  obtain ⟨h1, h2, h3, ⟨cg, a1, a2, a3, a4, a5⟩, ⟨ct, b1, b2, b3⟩⟩ := h
  have lg : g < W.heap.size := (Array.getElem?_eq_some_iff.1 a1).1
  have lt : tr < W.heap.size := (Array.getElem?_eq_some_iff.1 b1).1
  have hsz : W4.heap.size = W.heap.size := by rw [h4]; simp
  have hB4 : Below B w W4 := by rw [h4]; exact (hB.setCell (by exact h2) _).setCell (by exact h1) _
  have g4 : W4.heap[g]? = some (.cells (cg.setIfInBounds 256 (.slice (some ⟨tr, 0, none⟩) (L.length + 1) 4)) 106 (0, 0)) := by
    rw [h4]
    exact heap_setCell_same _ g 256 cg _ _ ((heap_setCell_other W _ g _ h3).trans a1)
  have t4 : W4.heap[tr]? = some (.cells (ct.setIfInBounds L.length (.string ⟨#[b]⟩)) 9 (0, 0)) := by
    rw [h4]
    exact (heap_setCell_other _ _ tr _ (Ne.symm h3)).trans (heap_setCell_same W tr L.length ct _ _ b1)
  have o4 : ∀ r, r ≠ g → r ≠ tr → W4.heap[r]? = W.heap[r]? := fun r e1 e2 => by
    rw [h4]
    exact (heap_setCell_other _ _ r _ e1).trans (heap_setCell_other _ _ r _ e2)
  clear h4
  have hlb := UInt8.toNat_lt b
  generalize hcap : grownCap W4 t.size 0 5 = cap
  have g6 := heap_setCell_same (Lib.bytesWorld W4 5 t) g b.toNat _ _ (.slice (some ⟨W4.heap.size, 0, none⟩) t.size cap) ((Lib.bytesWorld_at_old W4 5 t g (by omega)).trans g4)
  have t6 := (heap_setCell_other (Lib.bytesWorld W4 5 t) ⟨g, b.toNat, none⟩ tr (.slice (some ⟨W4.heap.size, 0, none⟩) t.size cap) (Ne.symm h3)).trans ((Lib.bytesWorld_at_old W4 5 t tr (by omega)).trans t4)
  refine ⟨⟨h1, h2, h3, ⟨_, g6, by simp [a2], ?_, ?_, ?_⟩, ⟨_, t6, by simp [b2], ?_⟩⟩, ((bytes_below hB4 (by omega) 5 t)).setCell (by exact h1) _⟩
  · rw [Array.getElem?_setIfInBounds_ne (by omega), Array.getElem?_setIfInBounds_self]
    simp [a2]
  · intro k hk hp
    have e1 : b.toNat ≠ k := hp (b, t) (by simp)
    rw [Array.getElem?_setIfInBounds_ne e1, Array.getElem?_setIfInBounds_ne (by omega)]
    exact a4 k hk (fun p hp' => hp p (by simp [hp']))
  · intro p hp
    rcases List.mem_append.1 hp with hp | hp
    · obtain ⟨r, c, c1, c2, c3, c4, c5, c6⟩ := a5 p hp
      have e1 : b.toNat ≠ p.1.toNat := fun e => hn p hp (UInt8.toNat_inj.1 e.symm)
      have e2 := UInt8.toNat_lt p.1
      refine ⟨r, c, ?_, c2, by simp [Lib.bytesWorld_size]; omega, c4, c5, fun j hj => ?_⟩
      · rw [Array.getElem?_setIfInBounds_ne e1, Array.getElem?_setIfInBounds_ne (by omega)]
        exact c1
      · refine (World.cell?_of_block (w := W) ?_).trans (c6 j hj)
        exact (heap_setCell_other _ _ r _ c4).trans ((Lib.bytesWorld_at_old W4 5 t r (by omega)).trans (o4 r c4 c5))
    · obtain rfl : p = (b, t) := by simpa using hp
      refine ⟨W4.heap.size, cap, ?_, by omega, by simp [Lib.bytesWorld_size], by omega, by omega, fun j hj => ?_⟩
      · rw [Array.getElem?_setIfInBounds_self]
        simp [a2]
        omega
      · rw [← Lib.bytesWorld_cell W4 5 t j hj]
        exact World.cell?_of_block (heap_setCell_other _ _ _ _ (by show W4.heap.size ≠ g; omega))
  · intro i p hp
    by_cases hi : i < L.length
    · rw [List.getElem?_append_left hi] at hp
      rw [Array.getElem?_setIfInBounds_ne (by omega)]
      exact b3 i p hp
    · have : i = L.length := by
        have := (List.getElem?_eq_some_iff.1 hp).1
        simp at this
        omega
      subst this
      simp at hp
      subst hp
      rw [Array.getElem?_setIfInBounds_self]
      simp [b2, hl]
/-- The byte's own cell, before it is set. -/
theorem Rep.ready {B : Nat} {W : World} {g tr : Nat} {L : List (UInt8 × ByteArray)} (h : Rep B W g tr L) (b : Nat) (hb : b < 256) (hn : ∀ p ∈ L, p.1.toNat ≠ b) (t : ByteArray) (v1 v2 : Value)
    (W4 : World) (h4 : W4 = (W.setCell ⟨tr, L.length, none⟩ v1).setCell ⟨g, 256, none⟩ v2) :
    (Lib.bytesWorld W4 5 t).cell? ⟨g, b, none⟩ = some (.slice none 0 0) ∧ (Lib.bytesWorld W4 5 t).frozen? ⟨g, b, none⟩ = false := by
  have h0 := h.nil b hb hn
  obtain ⟨cg, a1, a2, a3, a4, a5⟩ := h.row
  have lg : g < W.heap.size := (Array.getElem?_eq_some_iff.1 a1).1
  have g4 : W4.heap[g]? = some (.cells (cg.setIfInBounds 256 v2) 106 (0, 0)) := by
    rw [h4]
    exact heap_setCell_same _ g 256 cg _ _ ((heap_setCell_other W _ g _ h.ne).trans a1)
  have hsz : W4.heap.size = W.heap.size := by rw [h4]; simp
  have g5 := (Lib.bytesWorld_at_old W4 5 t g (by omega)).trans g4
  refine ⟨?_, frozen_of_row _ g b _ _ g5⟩
  simp only [World.cell?, g5]
  rw [Array.getElem?_setIfInBounds_ne (by omega)]
  exact a4 b hb hn
theorem append_ev {P : Program} {ops : Array Oper} {rest : List Oper} {o : Oper} {a : Act} {Q : Exit → Act → World → Prop} {W W' : World} {s x : Operand} {t : TypeId} {v vs vx : Value} (hgd : o.guard = none) (ho : o.op = .call { callee := .builtin .append, args := #[s, x], argTypes := #[t, t] })
    (hs : a.eval s = vs) (hx : a.eval x = vx) (hr : (Builtin.append_ #[t, t] o.type #[vs, vx]).run P W = .ok v W') (h : wpList P ops Q rest (a.put o.dst v) W') : wpList P ops Q (o :: rest) a W := by
  refine Kd.event_run hgd ?_ h
  simp [execOp, ho, resolve, invoke, hs, hx, builtin, hr]
theorem nil_eq (W : World) (a : Option Addr) (l c : Nat) : (binOp .eql 22 (.slice a l c) (.slice none 0 0)).run Tryz.prog W = .ok (.bool a.isNone) W := Lib.run_eql_slice_nil W 22 5 a l c 0 0 Tryz.underlying22
theorem nil_ne (W : World) (a : Option Addr) (l c : Nat) : (binOp .neq 22 (.slice a l c) (.slice none 0 0)).run Tryz.prog W = .ok (.bool (!a.isNone)) W := run_neq_slice_nil W 22 5 a l c Tryz.underlying22
/-- The string of one byte, from a row just laid. -/
theorem conv1 (W : World) (b : UInt8) : (convert 22 9 (.slice (some ⟨W.heap.size, 0, none⟩) 1 1)).run Tryz.prog (W.alloc (.cells #[.int .u8 b.toNat] 5)) = .ok (.string ⟨#[b]⟩) (W.alloc (.cells #[.int .u8 b.toNat] 5)) := by
  have hr : ReadsInt (W.alloc (.cells #[.int .u8 b.toNat] 5)) .u8 (some ⟨W.heap.size, 0, none⟩) 1 [(b.toNat : Int)] := by
    refine ⟨rfl, by omega, fun _ => ⟨_, rfl, fun j hj => ?_⟩⟩
    obtain rfl : j = 0 := by omega
    rw [add_plain]
    have hh := heap_alloc_new W (.cells #[.int .u8 b.toNat] 5)
    simp only [World.cell?, hh]
    rfl
  have := string_of_reads (P := Tryz.prog) (c := 1) Tryz.underlying22 Tryz.underlying5 Tryz.underlying9 hr
  rw [this]
  have e : strOfNums [(b.toNat : Int)] = ⟨#[b]⟩ := by simp [strOfNums]
  rw [e]
/-- A pattern goes behind the others: there is room. -/
theorem pat_append {B : Nat} {W : World} {g tr : Nat} {L : List (UInt8 × ByteArray)} (h : Rep B W g tr L) (hl : L.length < 4) (W1 : World) (hb : Below W.heap.size W W1) (b : UInt8) (a : Nat) (ha : a = W1.heap.size) :
    (Builtin.append_ #[31, 31] 31 #[.slice (some ⟨tr, 0, none⟩) L.length 4, .slice (some ⟨a, 0, none⟩) 1 1]).run Tryz.prog (W1.alloc (.cells #[.string ⟨#[b]⟩] 9)) =
      .ok (.slice (some ⟨tr, 0, none⟩) (L.length + 1) 4) ((W1.alloc (.cells #[.string ⟨#[b]⟩] 9)).setCell ⟨tr, L.length, none⟩ (.string ⟨#[b]⟩)) := by
  subst ha
  obtain ⟨ct, a1, a2, a3⟩ := h.tt
  have lt : tr < W.heap.size := (Array.getElem?_eq_some_iff.1 a1).1
  have hz := hb.size
  have a4 : (W1.alloc (.cells #[.string ⟨#[b]⟩] 9)).heap[tr]? = some (.cells ct 9 (0, 0)) := (Below.heap_alloc W1 _ tr (by omega)).trans ((hb.block tr lt).trans a1)
  obtain ⟨i0, hi, hz0, hs, hb0⟩ := info_parts rqInfo9
  have hr := run_append_room_cells (P := Tryz.prog) (W1.alloc (.cells #[.string ⟨#[b]⟩] 9)) 31 31 9 i0 Tryz.underlying31 hi tr 0 L.length 4 ⟨W1.heap.size, 0, none⟩ 1 1 [.string ⟨#[b]⟩] (by rw [hs]; rfl) (fun j u hj => by
      cases j with
      | succ j => simp at hj
      | zero =>
        rw [add_plain]
        simp at hj
        rw [← hj]
        simp only [World.cell?, heap_alloc_new]
        rfl) (by simp [Value.oneCell']) (by omega)
    (fun j hj => by
      have : j = 0 := by simpa using hj
      subst this
      rw [hs]
      simp only [World.cell?, a4]
      simp [a2]
      omega)
    (fun j hj => by
      rw [hs]
      exact frozen_of_row _ tr _ ct _ a4)
  rw [hs, show 0 + L.length * 1 = L.length by omega] at hr
  exact hr
end Go.Proofs.YthoamjobclfjjaaGreatDoor.K
