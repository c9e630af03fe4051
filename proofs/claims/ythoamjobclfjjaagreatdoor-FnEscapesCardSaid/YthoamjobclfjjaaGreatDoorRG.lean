/- (*Replacer).Replace, the first time; what impl.escape hands back. No condition but what each states. -/
import Derived.Test.YthoamjobclfjjaaGreatDoorRD
import Derived.Test.YthoamjobclfjjaaGreatDoorRF
namespace Go.Proofs.YthoamjobclfjjaaGreatDoor.K
set_option linter.unusedVariables false
set_option linter.unusedSimpArgs false
open Go.RowKit Go.Proofs.YthoamjobclfjjaaGreatDoor Go.Proofs.YthoamjobclfjjaaGreatDoorW.PrintWords Go.Proofs.YthoamjobclfjjaaGreatDoorW.PrintLast Go.Proofs.YthoamjobclfjjaaGreatDoorW.PrintMore
set_option maxRecDepth 100000 in
set_option maxHeartbeats 1600000 in
theorem first_calls (R ob cap : Nat) (s : ByteArray) (w : World) (hcap : 8 ≤ cap) (hx : w.heap[R]? = some (.cells #[.int .u32 0, .int .i32 0, .int .u32 0, .nilIface, .slice (some ⟨ob, 0, none⟩) 8 cap] 76 (0, 0)))
    (hO : ∀ j, j < 8 → w.cell? ⟨ob, j, none⟩ = some (.string (S8.getD j ByteArray.empty))) (hne : ob ≠ R) (hs : s.size ≤ 1000000) (B : Nat) (w0 : World) (hB : Below B w0 w) (hBR : B ≤ R) (hBw : B ≤ w.heap.size) :
    Calls Tryz.prog 32 #[.pointer (some ⟨R, 0, none⟩), .string s] w fun e w' => e = .returned (.string (escB s)) ∧ Below B w0 w' := by
  have hlt : R < w.heap.size := (Array.getElem?_eq_some_iff.1 hx).1
  have hx1 := heap_setCell_same w R 1 _ _ (.int .i32 1) hx
  have hO1 : ∀ j, j < 8 → (w.setCell ⟨R, 1, none⟩ (.int .i32 1)).cell? ⟨ob, j, none⟩ = some (.string (S8.getD j ByteArray.empty)) := fun j hj => (World.cell?_of_block (heap_setCell_other w _ ob _ hne)).trans (hO j hj)
  have hD := do_first R w (fun w1 => ∃ rb, w1.heap[R]? = some (.cells #[.int .u32 0, .int .i32 1, .int .u32 0, .iface 107 (.pointer (some ⟨rb, 0, none⟩)), .slice none 0 0] 76 (0, 0)) ∧ Rep w.heap.size w1 rb w.heap.size marks ∧ Below B w0 w1)
    (row_cell hx 0) (row_cell hx 1) (frozen_of_row _ R 0 _ _ hx) (frozen_of_row _ R 1 _ _ hx)
    ((once_built R ob cap _ _ _ _ _ hcap hx1 hO1).mono (by
      rintro e w' ⟨rfl, rb, q1, q2, q3⟩
      simp only [World.size_setCell] at q2 q3
      exact ⟨rfl, rb, q1, q2, q3 B w0 (hB.setCell (by exact hBR) _) hBR hBw⟩))
    (by
      rintro w' ⟨rb, q1, _, _⟩
      exact ⟨row_cell q1 0, row_cell q1 1, frozen_of_row _ R 0 _ _ q1, frozen_of_row _ R 1 _ _ q1⟩)
  go_enter Tryz.func32, Tryz.ntmps32
  go_wp2_with (go_at_call 37; refine hD.mono ?_)
  rintro e w2 ⟨rfl, w1, ⟨rb, x1, hRep, hB1⟩, rfl⟩
  clear hD hx1 hO1
  have y1 : w1.drew.heap[R]? = _ := x1
  have y2 := heap_setCell_same _ R 0 _ _ (.int .u32 1) y1
  have y3 := heap_setCell_same _ R 1 _ _ (.int .i32 0) y2
  have hRep2 : Rep w.heap.size ((w1.drew.setCell ⟨R, 0, none⟩ (.int .u32 1)).setCell ⟨R, 1, none⟩ (.int .i32 0)) rb w.heap.size marks := ((hRep.keep (W' := w1.drew) (Nat.le_refl _) (fun b _ _ => by rw [heap_drew])).far _ (by exact hlt) _).far _ (by exact hlt) _
  have hB2 : Below B w0 ((w1.drew.setCell ⟨R, 0, none⟩ (.int .u32 1)).setCell ⟨R, 1, none⟩ (.int .i32 0)) := (hB1.drew.setCell (by exact hBR) _).setCell (by exact hBR) _
  generalize (w1.drew.setCell ⟨R, 0, none⟩ (.int .u32 1)).setCell ⟨R, 1, none⟩ (.int .i32 0) = w2 at *
  have h3 : w2.cell? ⟨R, 3, none⟩ = some (.iface 107 (.pointer (some ⟨rb, 0, none⟩))) := row_cell y3 3
  clear y1 y2 y3 x1
  have hm : (method 297 107 (.pointer (some ⟨rb, 0, none⟩)) "Replace").run Tryz.prog w2 = .ok (137, .pointer (some ⟨rb, 0, none⟩)) w2 := by kernel_rfl
  go_wp2_with (go_at_call 137; refine (replace_calls _ _ rb s _ hRep2 hs).mono ?_; rintro e w' ⟨rfl, hB3⟩)
  go_ret
  exact ⟨rfl, hB2.trans (hB3.mono (by have := block_lt_of_cell h3; simp only at this; omega))⟩
end Go.Proofs.YthoamjobclfjjaaGreatDoor.K
