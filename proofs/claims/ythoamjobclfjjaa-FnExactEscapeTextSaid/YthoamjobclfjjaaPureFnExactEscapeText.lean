/- The program's EscapeText and the reference's: what they compute is the same, in plain functions. No condition but the text's size. -/
import Derived.Test.YthoamjobclfjjaaUEsc
import Derived.Test.YthoamjobclfjjaaR1
namespace Go.Proofs.Ythoamjobclfjjaa.Pure
set_option linter.unusedVariables false
set_option linter.unusedSimpArgs false
open Go.RowKit Go.Proofs.Ythoamjobclfjjaa Go.Proofs.Ythoamjobclfjjaa.R Go.Proofs.YthoamjobclfjjaaW.PrintWords Go.Proofs.YthoamjobclfjjaaW.PrintLast
theorem text_refl (c : Int) (t : ByteArray) : laws_eqTextResult.f c t c t = some true := by
  unfold laws_eqTextResult.f
  rw [if_pos rfl, if_pos rfl]
theorem valueC_cases (l : List UInt8) : (Pl.valueC l = 0 ∧ l.length ≤ 40) ∨ Pl.valueC l ≠ 0 := by
  unfold Pl.valueC
  by_cases h : l.length > 40
  · rw [if_pos h]
    exact .inr (by decide)
  · rw [if_neg h]
    by_cases h2 : l.all Pl.printB = true
    · rw [if_pos h2]
      exact .inl ⟨rfl, by omega⟩
    · rw [if_neg h2]
      exact .inr (by decide)
theorem FnExactEscapeText : laws_FnExactEscapeText.Pure := by
  intro a0 h0
  refine Ev.rounds (g := fun k => laws_FnExactEscapeText.f k a0) ?_
  unfold laws_FnExactEscapeText.f
  have hz : a0.data.toList.length = a0.size := rfl
  have v1 := l1Value_ev (s := a0) rfl
  have v2 := implValue_ev (s := a0) rfl (by omega)
  by_cases h1 : (a0.size : Int) > 1048576
  · exact Pl.ev_ite_pos h1 (Ev.now _)
  refine Pl.ev_ite_neg h1 ?_
  have ends : ∀ (c : Int) (t : ByteArray), Ev (fun _ : Nat => (laws_eqTextResult.f c t c t).bind fun t125 => (if t125 = true then (some true) else (some false))) true := fun c t => by
    rw [text_refl]
    exact Ev.now _
  rcases valueC_cases a0.data.toList with ⟨e, h40⟩ | e
  · have hs : a0.size ≤ 1000000 := by omega
    refine Pl.ev_bind' (a := (0, escB a0)) ?_ (Pl.ev_bind' (a := (0, escB a0)) ?_ (ends _ _))
    · unfold spec_EscapeText.f
      refine Pl.ev_bind' v1 (Pl.ev_ite_pos e (Pl.ev_bind' (specEsc_ev a0 hs) (Ev.now _)))
    · unfold impl_EscapeText.f
      refine Pl.ev_bind' v2 (Pl.ev_ite_pos e (Pl.ev_bind' (a := escB a0) ?_ (Ev.now _)))
      have hE : impl_escape.f a0 = some (escB a0) := if_pos hs
      rw [hE]
      exact Ev.now _
  · refine Pl.ev_bind' (a := (Pl.valueC a0.data.toList, (⟨#[]⟩ : ByteArray))) ?_ (Pl.ev_bind' (a := (Pl.valueC a0.data.toList, (⟨#[]⟩ : ByteArray))) ?_ (ends _ _))
    · unfold spec_EscapeText.f
      exact Pl.ev_bind' v1 (Pl.ev_ite_neg e (Ev.now _))
    · unfold impl_EscapeText.f
      exact Pl.ev_bind' v2 (Pl.ev_ite_neg e (Ev.now _))
end Go.Proofs.Ythoamjobclfjjaa.Pure
