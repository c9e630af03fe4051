/- FnExactNameFault: for every text the program's NameFault answers what the reference's answers; no condition. -/
import Derived.Test.YtjlcajhlggoleaaUMark
import Derived.Test.YtjlcajhlggoleaaQ3
namespace Go.Proofs.Ytjlcajhlggoleaa.Pure
open Go.RowKit Go.Proofs.Ytjlcajhlggoleaa Go.Proofs.Ytjlcajhlggoleaa.Q Go.Proofs.YtjlcajhlggoleaaW.PrintWords Go.Proofs.YtjlcajhlggoleaaW.PrintLast

theorem FnExactNameFault : laws_FnExactNameFault.Pure := by
  intro s hs
  refine Ev.rounds (g := fun k => laws_FnExactNameFault.f k s) ?_
  unfold laws_FnExactNameFault.f
  simp only [Pl.ev_ite]
  split
  · exact Pl.ev_some.2 rfl
  · have hl : s.data.toList.length < 9223372036854775807 := by rw [Pl.size_toList]; omega
    refine Pl.ev_bind' (spec_name rfl hl) ?_
    refine Pl.ev_bind' (impl_name rfl hl) ?_
    rw [if_pos rfl]
    exact Ev.now _

end Go.Proofs.Ytjlcajhlggoleaa.Pure
