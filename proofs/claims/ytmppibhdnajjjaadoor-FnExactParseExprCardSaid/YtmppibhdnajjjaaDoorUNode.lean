/- What the laws' own comparison of nodes comes to. No condition. -/
import Derived.Test.YtmppibhdnajjjaaDoorXPure
import Derived.Test.YtmppibhdnajjjaaDoorP9
namespace Go.Proofs.YtmppibhdnajjjaaDoor.P
set_option linter.unusedVariables false
set_option linter.unusedSimpArgs false
open Go.RowKit Go.Proofs.YtmppibhdnajjjaaDoor Go.Proofs.YtmppibhdnajjjaaDoorW.PrintWords Go.Proofs.YtmppibhdnajjjaaDoorW.PrintLast
theorem rd_iNode (l : List S45) (i : Nat) (h : i < l.length) : rd_T45 l (i : Int) = l[i] := Pl.getD_get h
theorem eqNodeS_ev (l : List S45) (hl : l.length ≤ 1048576) : Ev (fun k => laws_eqNodeS.f k l l) true := by
  unfold laws_eqNodeS.f
  simp only [if_true]
  refine Pl.loop0 (n := l.length) (g := fun k i => laws_eqNodeS.l0 k l l i) (F := fun _ => true) ?_ (fun i hi ih => ?_) 0 (Nat.zero_le _)
  · refine Ev.step (fun k => by rw [laws_eqNodeS.l0]) ?_
    simp [Pl.ev_some]
  · refine Ev.step (fun k => by rw [laws_eqNodeS.l0]) ?_
    simp only [Pl.ev_ite, Pl.ev_some, Pl.ev_none, laws_eqNode.f, if_true, Option.bind_some, Pl.wrap_nat (show i < 9223372036854775807 by omega)]
    rw [if_pos (by omega), if_pos (by omega), if_pos (by omega)]
    exact ih
end Go.Proofs.YtmppibhdnajjjaaDoor.P
