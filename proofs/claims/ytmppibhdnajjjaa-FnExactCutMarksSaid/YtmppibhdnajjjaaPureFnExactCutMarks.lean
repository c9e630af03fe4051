/- FnExactCutMarks: for every text the program's CutMarks answers what the reference's answers, and its answer owns its memory; no condition. -/
import Derived.Test.YtmppibhdnajjjaaUCut
import Derived.Test.YtmppibhdnajjjaaUTexts
import Derived.Test.YtmppibhdnajjjaaC4
namespace Go.Proofs.Ytmppibhdnajjjaa.Pure
set_option linter.unusedVariables false
set_option linter.unusedSimpArgs false
open Go.RowKit Go.Proofs.Ytmppibhdnajjjaa Go.Proofs.Ytmppibhdnajjjaa.C Go.Proofs.YtmppibhdnajjjaaW.PrintWords Go.Proofs.YtmppibhdnajjjaaW.PrintLast
theorem FnExactCutMarks : laws_FnExactCutMarks.Pure := by
  intro t ht
  refine Ev.rounds (g := fun k => laws_FnExactCutMarks.f k t) ?_
  unfold laws_FnExactCutMarks.f
  by_cases h : (t.size : Int) > 1048576
  · exact Pl.ev_ite_pos h (Ev.now _)
  · refine Pl.ev_ite_neg h ?_
    obtain ⟨c, ps, hl, s, m, _⟩ := cutMarks_ev t
    have eqt := eqTexts_ev c ps (by omega)
    have mk := markTexts_ev c ps (by omega)
    have hd := heldTexts_ev c ps.length (by omega)
    exact Pl.ev_bind' s (Pl.ev_bind' m (Pl.ev_bind' eqt (Pl.ev_ite_pos rfl (Pl.ev_bind' mk (Pl.ev_bind' hd (Pl.ev_ite_neg (by omega) (Pl.ev_ite_pos rfl (Pl.ev_bind' m (Pl.ev_bind' eqt (Pl.ev_ite_pos rfl (Pl.ev_bind' hd (Pl.ev_ite_neg (by omega) (Pl.ev_ite_pos rfl (Ev.now _))))))))))))))
end Go.Proofs.Ytmppibhdnajjjaa.Pure
