/- How many marks elements take. No condition. -/
import Derived.Test.YtbjakfnfjndccaaTM
import Derived.Test.YtbjakfnfjndccaaUInts
namespace Go.Proofs.Ytbjakfnfjndccaa.T
set_option linter.unusedVariables false
set_option linter.unusedSimpArgs false
open Go.RowKit Go.Proofs.Ytbjakfnfjndccaa Go.Proofs.YtbjakfnfjndccaaW.PrintWords Go.Proofs.YtbjakfnfjndccaaW.PrintLast
theorem foldl_le {α : Type} (f : α → Nat) (B : Nat) : ∀ (l : List α) (m : Nat), (∀ x ∈ l, f x ≤ B) → l.foldl (fun m x => m + f x) m ≤ m + l.length * B
  | [], m, _ => by simp
  | x :: l, m, h => by
    have h1 := foldl_le f B l (m + f x) (fun y hy => h y (List.mem_cons_of_mem _ hy))
    have h2 := h x List.mem_cons_self
    rw [List.foldl_cons, List.length_cons, Nat.succ_mul]
    omega
theorem manyAttr_le (l : List S78) : laws_markAttrS.many l ≤ 2 * l.length := by
  have := foldl_le (fun _ : S78 => 2) 2 l 0 (fun _ _ => Nat.le_refl _)
  unfold laws_markAttrS.many
  omega
theorem markElem_some (p : List S48) (hl : p.length ≤ 1048576) (hb : ∀ y ∈ p, y.f2.length ≤ 1048576) : ∃ t : Int, laws_markElemS.f p 1 = some t ∧ ¬ t < 0 := by
  refine ⟨_, rfl, ?_⟩
  have h1 : laws_markElemS.many p ≤ p.length * 8388612 := by
    have := foldl_le (fun x : S48 => 2 + laws_markAttrS.many x.f2) 8388612 p 0 (fun x hx => by
      have := hb x hx
      have h4 := manyAttr_le x.f2
      omega)
    unfold laws_markElemS.many
    omega
  have h2 : p.length * 8388612 ≤ 1048576 * 8388612 := Nat.mul_le_mul_right _ hl
  rw [ups_nat _ _ (by omega) (by omega)]
  omega
end Go.Proofs.Ytbjakfnfjndccaa.T
