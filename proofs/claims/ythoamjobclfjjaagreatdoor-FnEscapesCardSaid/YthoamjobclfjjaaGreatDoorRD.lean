/- The replacer is built once: what buildOnce and NewReplacer leave. No condition but what each states. -/
import Derived.Test.YthoamjobclfjjaaGreatDoorRB
import Derived.Test.YthoamjobclfjjaaGreatDoorRC
namespace Go.Proofs.YthoamjobclfjjaaGreatDoor.K
set_option linter.unusedVariables false
set_option linter.unusedSimpArgs false
open Go.RowKit Go.Proofs.YthoamjobclfjjaaGreatDoor Go.Proofs.YthoamjobclfjjaaGreatDoorW.PrintWords Go.Proofs.YthoamjobclfjjaaGreatDoorW.PrintLast Go.Proofs.YthoamjobclfjjaaGreatDoorW.PrintMore
theorem row_cell {W : World} {g : Nat} {cs : Array Value} {t : TypeId} (h : W.heap[g]? = some (.cells cs t (0, 0))) (i : Nat) : W.cell? ⟨g, i, none⟩ = cs[i]? := by simp [World.cell?, h]
set_option maxRecDepth 100000 in
set_option maxHeartbeats 400000 in
theorem once_built (R ob cap : Nat) (a0 a1 a2 a3 : Value) (w : World) (hcap : 8 ≤ cap) (hx : w.heap[R]? = some (.cells #[a0, a1, a2, a3, .slice (some ⟨ob, 0, none⟩) 8 cap] 76 (0, 0))) (hO : ∀ j, j < 8 → w.cell? ⟨ob, j, none⟩ = some (.string (S8.getD j ByteArray.empty))) :
    Calls Tryz.prog 38 #[.pointer (some ⟨R, 0, none⟩)] w fun e w' => e = .returned (.tuple #[]) ∧ ∃ rb, w'.heap[R]? = some (.cells #[a0, a1, a2, .iface 107 (.pointer (some ⟨rb, 0, none⟩)), .slice none 0 0] 76 (0, 0)) ∧ Rep w.heap.size w' rb w.heap.size marks ∧
      (∀ B w0, Below B w0 w → B ≤ R → B ≤ w.heap.size → Below B w0 w') := by
  have hlt : R < w.heap.size := (Array.getElem?_eq_some_iff.1 hx).1
  have h4 : w.cell? ⟨R, 4, none⟩ = some (.slice (some ⟨ob, 0, none⟩) 8 cap) := row_cell hx 4
  go_enter Tryz.func38, Tryz.ntmps38
  go_wp2_with (go_at_call 45; refine (build_calls R ob cap w hcap h4 hO).mono ?_)
  rintro e w1 ⟨rb, rfl, hR, hB⟩
  have hx1 := (hB.block R hlt).trans hx
  have z3 : w1.cell? ⟨R, 3, none⟩ = some a3 := row_cell hx1 3
  have z4 : w1.cell? ⟨R, 4, none⟩ = some (.slice (some ⟨ob, 0, none⟩) 8 cap) := row_cell hx1 4
  have f3 : w1.frozen? ⟨R, 3, none⟩ = false := frozen_of_row _ R 3 _ _ hx1
  have f4 : w1.frozen? ⟨R, 4, none⟩ = false := frozen_of_row _ R 4 _ _ hx1
  go_wp2
  go_end0
  refine ⟨rfl, rb, ?_, (hR.far _ (by exact hlt) _).far _ (by exact hlt) _, fun B w0 hb hBR hBw => ?_⟩
  · exact heap_setCell_same _ R 4 _ _ _ (heap_setCell_same _ R 3 _ _ _ hx1)
  · exact ((hb.trans (hB.mono hBw)).setCell (by exact hBR) _).setCell (by exact hBR) _
theorem first8 {w : World} {ar : Nat} (hO : ∀ j, j < 8 → w.cell? ⟨ar, j, none⟩ = some (.string (S8.getD j ByteArray.empty))) (j : Nat) (u : Value) (hj : (S8.map Value.string)[j]? = some u) : w.cell? ((⟨ar, 0, none⟩ : Addr).add j) = some u := by
  rw [add_plain]
  rw [List.getElem?_map] at hj
  cases hj2 : S8[j]? with
  | none => rw [hj2] at hj; cases hj
  | some y =>
    rw [hj2] at hj
    have hjl : j < S8.length := (List.getElem?_eq_some_iff.1 hj2).1
    rw [hO j hjl, List.getD_eq_getElem?_getD, hj2]
    exact hj
set_option maxRecDepth 100000 in
set_option maxHeartbeats 400000 in
theorem new_calls (ar : Nat) (w : World) (hO : ∀ j, j < 8 → w.cell? ⟨ar, j, none⟩ = some (.string (S8.getD j ByteArray.empty))) :
    Calls Tryz.prog 31 #[.slice (some ⟨ar, 0, none⟩) 8 8] w fun e w' => ∃ R ob cap, e = .returned (.pointer (some ⟨R, 0, none⟩)) ∧ 8 ≤ cap ∧ w'.heap[R]? = some (.cells #[.int .u32 0, .int .i32 0, .int .u32 0, .nilIface, .slice (some ⟨ob, 0, none⟩) 8 cap] 76 (0, 0)) ∧
      (∀ j, j < 8 → w'.cell? ⟨ob, j, none⟩ = some (.string (S8.getD j ByteArray.empty))) ∧ Below w.heap.size w w' ∧ w.heap.size ≤ R := by
  obtain ⟨i0, hi, hz0, hs, hb0⟩ := info_parts rqInfo9
  go_enter Tryz.func31, Tryz.ntmps31
  go_wp2_with (first
    | (at_builtin; refine wpList_append_grows (P := Tryz.prog) w rfl (.const (.slice none 0 0)) (.tmp 8) 31 rfl 9 i0 (.string ByteArray.empty) 1 16 Tryz.underlying31 hi hz0 hs hb0 rfl (by omega) none 0 0 [] rfl (fun _ => ⟨rfl, rfl⟩) rfl (fun b e => by cases e) ⟨ar, 0, none⟩ 8 8 (S8.map Value.string) rfl rfl ?hc (by decide) (by omega) (by decide) (by decide) ?_; (case hc => exact fun j u hj => first8 hO j u hj); intro v' w1 ho hg; obtain ⟨_, ⟨_, h0⟩ | ⟨ob, cap, cur, rfl, h1, h2, h3, h4, h5, h6⟩⟩ := ho; · exact absurd h0 (by omega)))
  go_ret
  have hb : Below w.heap.size w w1 := pw_below_grown (Below.refl _ _) none (Nat.le_refl _) hg (fun k hk => by cases hk)
  refine ⟨_, ob, cap, rfl, by omega, heap_alloc_new _ _, fun j hj => ?_, below_alloc hb _, hb.size⟩
  have e1 : (w1.alloc (.cells #[.int .u32 0, .int .i32 0, .int .u32 0, .nilIface, .slice (some ⟨ob, 0, none⟩) (0 + 8) cap] 76)).heap[ob]? = some (.cells cur 9 (0, 0)) := (Below.heap_alloc w1 _ ob (Array.getElem?_eq_some_iff.1 h2).1).trans h2
  refine (row_cell e1 j).trans ?_
  have e2 : (cur.toList.take ((0 + 8) * 1))[j]? = cur[j]? := by
    rw [List.getElem?_take, if_pos (by omega)]
    simp
  rw [← e2, h6]
  simp only [List.nil_append, List.getElem?_map]
  have hj' : j < S8.length := hj
  rw [List.getElem?_eq_getElem hj']
  simp [List.getD_eq_getElem?_getD, List.getElem?_eq_getElem hj']
end Go.Proofs.YthoamjobclfjjaaGreatDoor.K
