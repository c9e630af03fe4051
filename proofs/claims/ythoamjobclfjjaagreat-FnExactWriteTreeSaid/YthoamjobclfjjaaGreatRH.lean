/- The text that impl.escape hands back: over the list of its bytes, each of four marks turned to its written form. No condition but the text's size. -/
import Derived.Test.YthoamjobclfjjaaGreatRG
namespace Go.Proofs.YthoamjobclfjjaaGreat.R
set_option linter.unusedVariables false
set_option linter.unusedSimpArgs false
open Go.RowKit Go.Proofs.YthoamjobclfjjaaGreat Go.Proofs.YthoamjobclfjjaaGreatW.PrintWords Go.Proofs.YthoamjobclfjjaaGreatW.PrintLast Go.Proofs.YthoamjobclfjjaaGreatW.PrintMore
def impl_escape.f (s : ByteArray) : Option ByteArray := if s.size ≤ 1000000 then some (escB s) else none
theorem first_ne {w2 : World} {R ob cap : Nat} (hx : w2.heap[R]? = some (.cells #[.int .u32 0, .int .i32 0, .int .u32 0, .nilIface, .slice (some ⟨ob, 0, none⟩) 8 cap] 92 (0, 0)))
    (hO2 : ∀ j, j < 8 → w2.cell? ⟨ob, j, none⟩ = some (.string (S8.getD j ByteArray.empty))) : ob ≠ R := by
  rintro rfl
  have := hO2 0 (by omega)
  rw [row_cell hx 0] at this
  cases this
set_option maxRecDepth 100000 in
set_option maxHeartbeats 1600000 in
theorem impl_escape.calls (a0 r : ByteArray) (w : World) (h : impl_escape.f a0 = some r) :
    Calls Tryz.prog 36 #[.string a0] w fun e w' => e = .returned (.string r) ∧ Below w.heap.size w w' := by
  unfold impl_escape.f at h
  by_cases hs : a0.size ≤ 1000000
  case neg => rw [if_neg hs] at h; cases h
  rw [if_pos hs] at h
  obtain rfl := Option.some.inj h
  have hal : Below w.heap.size w (w.alloc (.cells (S8.map Value.string).toArray 9)) := below_alloc (Below.refl _ _) _
  have hO : ∀ j, j < 8 → (w.alloc (.cells (S8.map Value.string).toArray 9)).cell? ⟨w.heap.size, j, none⟩ = some (.string (S8.getD j ByteArray.empty)) := fun j hj => by
    refine (row_cell (heap_alloc_new w (.cells (S8.map Value.string).toArray 9)) j).trans ?_
    match j, hj with
    | 0, _ => rfl
    | 1, _ => rfl
    | 2, _ => rfl
    | 3, _ => rfl
    | 4, _ => rfl
    | 5, _ => rfl
    | 6, _ => rfl
    | 7, _ => rfl
  have hN := new_calls w.heap.size _ hO
  go_enter Tryz.func36, Tryz.ntmps36
  go_wp2_with (first
    | (go_at_call 46; refine hN.mono ?_; rintro e w2 ⟨R, ob, cap, rfl, hcap, hx, hO2, hB2, hge⟩; have hB3 := hal.trans (hB2.mono (by simp)); clear hN hO)
    | (go_at_call 47; refine (first_calls _ _ _ a0 _ hcap hx hO2 (first_ne hx hO2) hs w.heap.size w hB3 (by simp at hge; omega) hB3.size).mono ?_; rintro e w' ⟨rfl, hB4⟩))
  go_ret
  exact ⟨rfl, hB4⟩
end Go.Proofs.YthoamjobclfjjaaGreat.R
