/- The program's UnescapeText and the reference's: what they compute is the same, in plain functions. No condition but the text's size. -/
import Derived.Test.YtmppibhdnajjjaaDoorUUn2
import Derived.Test.YtmppibhdnajjjaaDoorK3
namespace Go.Proofs.YtmppibhdnajjjaaDoor.Pure
set_option linter.unusedVariables false
set_option linter.unusedSimpArgs false
open Go.RowKit Go.Proofs.YtmppibhdnajjjaaDoor Go.Proofs.YtmppibhdnajjjaaDoor.K Go.Proofs.YtmppibhdnajjjaaDoorW.PrintWords Go.Proofs.YtmppibhdnajjjaaDoorW.PrintLast
theorem text_refl (c : Int) (t : ByteArray) : laws_eqTextResult.f c t c t = some true := by
  unfold laws_eqTextResult.f
  rw [if_pos rfl, if_pos rfl]
theorem ends (c : Int) (t : ByteArray) : Ev (fun _ : Nat => (laws_eqTextResult.f c t c t).bind fun t183 => (if t183 = true then (some true) else (some false))) true := by
  rw [text_refl]
  exact Ev.now _
theorem spec_ev (s : ByteArray) (hs : s.size ≤ 400) : ∃ res : Option (List Int), Ev (fun k => spec_UnescapeText.f k s) (outS [] res) ∧ Ev (fun k => impl_unescape.f k s) (outI [] res) := by
  obtain ⟨res, h1, h2⟩ := un_both s hs 400 0 (by omega) (by omega)
  refine ⟨res, ?_, h2 s [] rfl (Nat.le_refl _)⟩
  unfold spec_UnescapeText.f
  exact Pl.ev_ite_neg (by omega) (h1 [] (Nat.le_refl _))
theorem impl_ev (s : ByteArray) (hs : s.size ≤ 400) (res : Option (List Int)) (h : Ev (fun k => impl_unescape.f k s) (outI [] res)) : Ev (fun k => impl_UnescapeText.f k s) (outS [] res) := by
  unfold impl_UnescapeText.f
  refine Pl.ev_ite_neg (by omega) (Pl.ev_bind' h ?_)
  simp only [codeIf_eq, Option.bind_some]
  cases res with
  | none =>
    refine Pl.ev_bind' (firstCode_ev _ (by simp)) ?_
    refine Pl.ev_ite_neg ?_ (Pl.ev_to (Ev.now _) ?_)
    · show ¬ Pl.firstC [if (!false) = true then 5 else 0, if decide ((0 : Int) > 40) = true then 2 else 0] = 0
      decide
    · rfl
  | some ys =>
    rw [outI_nil2, outS_nil2]
    refine Pl.ev_bind' (firstCode_ev _ (by simp)) ?_
    have hz : ((strOfNums ys).size : Int) = (ys.length : Int) := by
      unfold strOfNums
      rw [← Pl.size_toList]
      simp
    by_cases h40 : (ys.length : Int) > 40
    · have e : Pl.firstC [if (!(strOfNums ys, true).2) = true then (5 : Int) else 0, if decide (((strOfNums ys, true).1.size : Int) > 40) = true then 2 else 0] = 2 := by
        simp only [hz, decide_eq_true h40]
        rfl
      rw [e, if_pos h40]
      exact Pl.ev_ite_neg (by decide) (Ev.now _)
    · have e : Pl.firstC [if (!(strOfNums ys, true).2) = true then (5 : Int) else 0, if decide (((strOfNums ys, true).1.size : Int) > 40) = true then 2 else 0] = 0 := by
        simp only [hz, decide_eq_false h40]
        rfl
      rw [e, if_neg h40]
      exact Pl.ev_ite_pos rfl (Ev.now _)
theorem FnExactUnescapeText : laws_FnExactUnescapeText.Pure := by
  intro a0 _
  refine Ev.rounds (g := fun k => laws_FnExactUnescapeText.f k a0) ?_
  unfold laws_FnExactUnescapeText.f
  by_cases h0 : (a0.size : Int) > 1048576
  · exact Pl.ev_ite_pos h0 (Ev.now _)
  refine Pl.ev_ite_neg h0 ?_
  by_cases h1 : (a0.size : Int) > 400
  · refine Pl.ev_bind' (a := (2, (⟨#[]⟩ : ByteArray))) ?_ (Pl.ev_bind' (a := (2, (⟨#[]⟩ : ByteArray))) ?_ (ends _ _))
    · unfold spec_UnescapeText.f
      exact Pl.ev_ite_pos h1 (Ev.now _)
    · unfold impl_UnescapeText.f
      exact Pl.ev_ite_pos h1 (Ev.now _)
  · obtain ⟨res, h2, h3⟩ := spec_ev a0 (by omega)
    exact Pl.ev_bind' h2 (Pl.ev_bind' (impl_ev a0 (by omega) res h3) (ends _ _))
end Go.Proofs.YtmppibhdnajjjaaDoor.Pure
