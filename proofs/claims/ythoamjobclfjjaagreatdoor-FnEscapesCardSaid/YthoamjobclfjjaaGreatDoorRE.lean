/- How often a byte stands in a string; what (*byteStringReplacer).Replace hands back. No condition but what each states. -/
import Derived.Test.YthoamjobclfjjaaGreatDoorRP
import Derived.Laws.MakeOwn
import Derived.Laws.CopyRow
namespace Go.Proofs.YthoamjobclfjjaaGreatDoor.K
set_option linter.unusedVariables false
set_option linter.unusedSimpArgs false
open Go.RowKit Go.Proofs.YthoamjobclfjjaaGreatDoor Go.Proofs.YthoamjobclfjjaaGreatDoorW.PrintWords Go.Proofs.YthoamjobclfjjaaGreatDoorW.PrintLast Go.Proofs.YthoamjobclfjjaaGreatDoorW.PrintMore
set_option maxRecDepth 100000 in
set_option maxHeartbeats 400000 in
theorem count_calls (s : ByteArray) (c : UInt8) (w : World) : Calls Tryz.prog 139 #[.string s, .string ⟨#[c]⟩] w fun e w' => e = .returned (.int .i64 ((s.data.toList.count c : Nat) : Int)) ∧ w' = w := by
  go_enter Tryz.func139, Tryz.ntmps139
  go_wp2
  rw [run_callFunc_extern Tryz.func141 (by kernel_rfl) (by kernel_rfl) (by kernel_rfl) (e := Extern.BytealgCount.count) (by kernel_rfl), Lib.run_countString]
  simp only [Result.andThen]
  rw [Oper.upon_value]
  go_wp2
  go_ret
  refine ⟨?_, rfl⟩
  simp [Lib.countByte]
  rfl
theorem rqInfo5 : (Tryz.prog.info? 5).map (fun i => (i.zero, i.size, i.bytes)) = some (some (.int .u8 0), 1, 1) := by kernel_rfl
def u8v (c : UInt8) : Value := .int .u8 ((c.toNat : Nat) : Int)
/-- A buffer of q bytes: the first are these. -/
def BufRow (W : World) (b q : Nat) (L : List UInt8) : Prop := ∃ cur, W.heap[b]? = some (.cells cur 5 (0, 0)) ∧ cur.size = q ∧ cur.toList.take L.length = L.map u8v
theorem drop_at (b q j : Nat) (hj : j < q) (W : World) : (Instr.slice 22 (.slice (some ⟨b, 0, none⟩) q q) (some (.int .i64 (j : Int))) none none).run Tryz.prog W = .ok (.slice (some ⟨b, j, none⟩) (q - j) (q - j)) W := by
  obtain ⟨i5, hi5, _, hs5, _⟩ := info_parts rqInfo5
  have hel : Tryz.prog.elem 22 = 5 := by simp [Program.elem, Tryz.underlying22]
  have hu : Tryz.prog.underlying 22 = some (.slice (Tryz.prog.elem 22)) := by rw [hel]; exact Tryz.underlying22
  rw [run_slice_l W 22 (some ⟨b, 0, none⟩) q q hu .i64 (j : Int) (Int.natCast_nonneg _) (by omega), hel]
  have hne : ¬ q = j := by omega
  simp [sizeOf, typeInfo, hi5, hs5, sliced, Result.andThen, hne, Addr.add]
  omega
theorem make_buf (w : World) (q : Nat) (hq : q ≤ 6000000) : ∃ W1, (Instr.makeSlice 22 (.int .i64 (q : Int)) (.int .i64 (q : Int))).run Tryz.prog w = .ok (.slice (some ⟨w.heap.size, 0, none⟩) q q) W1 ∧ BufRow W1 w.heap.size q [] ∧ Below w.heap.size w W1 := by
  obtain ⟨i0, hi, hz, hs, hb⟩ := info_parts rqInfo5
  have := run_make (P := Tryz.prog) w 22 5 i0 (.int .u8 0) Tryz.underlying22 hi hz .i64 .i64 q q (by omega) (by omega) (by rw [hb]; omega) (by omega)
  refine ⟨_, this, ⟨_, heap_alloc_new _ _, ?_, by simp⟩, below_alloc (Below.refl _ _) _⟩
  rw [hs]
  simp [madeCells, Value.cells]
theorem BufRow.below {W W' : World} {b q : Nat} {L : List UInt8} (h : BufRow W b q L) (hk : W'.heap[b]? = W.heap[b]?) : BufRow W' b q L := by
  obtain ⟨cur, h1, h2, h3⟩ := h
  exact ⟨cur, hk.trans h1, h2, h3⟩
theorem BufRow.at_end {W : World} {b q : Nat} {L : List UInt8} (h : BufRow W b q L) (hl : L.length < q) : (∃ v, W.cell? ⟨b, L.length, none⟩ = some v) ∧ W.frozen? ⟨b, L.length, none⟩ = false := by
  obtain ⟨cur, h1, h2, h3⟩ := h
  refine ⟨⟨cur[L.length], ?_⟩, frozen_of_row W b _ cur _ h1⟩
  simp only [World.cell?, h1]
  exact Array.getElem?_eq_getElem _
theorem BufRow.put {W : World} {b q : Nat} {L : List UInt8} (h : BufRow W b q L) (hl : L.length < q) (c : UInt8) : BufRow (W.setCell ⟨b, L.length, none⟩ (.int .u8 ((c.toNat : Nat) : Int))) b q (L ++ [c]) := by
  obtain ⟨cur, h1, h2, h3⟩ := h
  refine ⟨_, heap_setCell_same W b L.length cur _ _ h1, by simp [h2], ?_⟩
  have e1 := List.take_succ_eq_append_getElem (l := cur.toList.set L.length (.int .u8 ((c.toNat : Nat) : Int))) (i := L.length) (by rw [List.length_set]; simpa [h2] using hl)
  rw [Array.toList_setIfInBounds, List.length_append, List.length_singleton, e1, List.take_set_of_le (Nat.le_refl _), h3, List.getElem_set_self, List.map_append]
  rfl
theorem u8_one (l : List UInt8) : ∀ v ∈ l.map u8v, v.oneCell' = true := fun v hv => by
  obtain ⟨x, _, rfl⟩ := List.mem_map.1 hv
  rfl
theorem BufRow.puts {W : World} {b q : Nat} {L : List UInt8} (h : BufRow W b q L) (t : ByteArray) (hl : L.length + t.size ≤ q) (r rc : Nat) (hr : ∀ j, j < t.size → W.cell? ⟨r, j, none⟩ = some (.int .u8 (t.data.toList.getD j 0).toNat)) :
    ∃ cs, (Builtin.copy_ #[22, 22] 3 #[.slice (some ⟨b, L.length, none⟩) (q - L.length) (q - L.length), .slice (some ⟨r, 0, none⟩) t.size rc]).run Tryz.prog W = .ok (.int .i64 (t.size : Int)) (W.setRow b cs) ∧ BufRow (W.setRow b cs) b q (L ++ t.data.toList) := by
  obtain ⟨cur, h1, h2, h3⟩ := h
  have e : t.data.toList.length = t.size := rfl
  have := run_copy_row (P := Tryz.prog) W 22 22 3 5 b L.length (q - L.length) (q - L.length) ⟨r, 0, none⟩ t.size rc cur 5 (t.data.toList.map u8v) Tryz.underlying22 (by
      obtain ⟨i5, hi5, _, hs5, _⟩ := info_parts rqInfo5
      rw [hi5, Option.map_some, hs5]) h1 (by rw [List.length_map, e]; exact (Nat.min_eq_left (by omega)).symm) (fun j v hj => by
      rw [List.getElem?_map] at hj
      cases hj2 : t.data.toList[j]? with
      | none => rw [hj2] at hj; cases hj
      | some y =>
        rw [hj2] at hj
        have hjl : j < t.size := (List.getElem?_eq_some_iff.1 hj2).1
        rw [add_plain, hr j hjl, List.getD_eq_getElem?_getD, hj2]
        exact hj) (by rw [List.length_map, e, h2]; omega) (u8_one _)
  rw [List.length_map, e] at this
  refine ⟨_, this, _, setRow_heap W b cur _ _ _ h1, ?_, ?_⟩
  · simp [h2]
    omega
  · simp only [List.length_append, List.map_append]
    rw [h3]
    exact List.take_left' (by simp)
theorem BufRow.str {W : World} {b q : Nat} {L : List UInt8} (h : BufRow W b q L) (hl : L.length = q) (hq : q ≤ 6000000) : (convert 22 9 (.slice (some ⟨b, 0, none⟩) q q)).run Tryz.prog W = .ok (.string ⟨L.toArray⟩) W := by
  obtain ⟨cur, h1, h2, h3⟩ := h
  have hr : ReadsInt W .u8 (some ⟨b, 0, none⟩) q (L.map fun c => (c.toNat : Int)) := by
    refine ⟨by rw [List.length_map]; exact hl, by omega, fun _ => ⟨_, rfl, fun j hj => ?_⟩⟩
    rw [add_plain]
    simp only [World.cell?, h1]
    have e2 : (cur.toList.take L.length)[j]? = cur[j]? := by
      rw [List.getElem?_take, if_pos (by omega)]
      simp
    have hj' : j < L.length := by omega
    show cur[j]? = _
    rw [← e2, h3, List.getElem?_map, List.getElem?_eq_getElem hj']
    simp [u8v, List.getD_eq_getElem?_getD, List.getElem?_eq_getElem hj']
  rw [string_of_reads (P := Tryz.prog) (c := q) Tryz.underlying22 Tryz.underlying5 Tryz.underlying9 hr]
  have e : strOfNums (L.map fun c => (c.toNat : Int)) = ⟨L.toArray⟩ := by
    unfold strOfNums
    congr 1
    simp [Function.comp_def]
  rw [e]
end Go.Proofs.YthoamjobclfjjaaGreatDoor.K
