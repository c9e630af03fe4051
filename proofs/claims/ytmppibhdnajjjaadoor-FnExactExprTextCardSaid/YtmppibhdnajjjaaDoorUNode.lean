/- What the laws' own sizes, copies and comparisons of nodes come to. No condition. -/
import Derived.Test.YtmppibhdnajjjaaDoorXPure
import Derived.Test.YtmppibhdnajjjaaDoorE1
import Derived.Test.YtmppibhdnajjjaaDoorE2
import Derived.Test.YtmppibhdnajjjaaDoorE7
import Derived.Test.YtmppibhdnajjjaaDoorE6
import Derived.Test.YtmppibhdnajjjaaDoorEO
namespace Go.Proofs.YtmppibhdnajjjaaDoor.E
set_option linter.unusedVariables false
set_option linter.unusedSimpArgs false
open Go.RowKit Go.Proofs.YtmppibhdnajjjaaDoor Go.Proofs.YtmppibhdnajjjaaDoorW.PrintWords Go.Proofs.YtmppibhdnajjjaaDoorW.PrintLast
theorem rd_lNode (l : List S67) (i : Nat) (h : i < l.length) : rd_T67 l (i : Int) = l[i] := Pl.getD_get h
theorem rd_iNode (l : List S45) (i : Nat) (h : i < l.length) : rd_T45 l (i : Int) = l[i] := Pl.getD_get h
/-- A node, copied. -/
def toNode (x : S67) : S45 := ⟨x.f0, x.f1, x.f2, x.f3⟩
theorem szNodeS_ev (l : List S67) (hl : l.length ≤ 9223372036854775807) (x : Int) (h0 : 0 ≤ x) (h1 : x ≤ 1048576) : ∃ r, -1 ≤ r ∧ r ≤ x ∧ (0 ≤ r → l.length ≤ 1048576) ∧ laws_szNodeS.f l x = some r := by
  have e : wrap64 (x - (l.length : Int)) = x - (l.length : Int) := Pl.wrap_in (by omega) (by omega)
  unfold laws_szNodeS.f
  rw [e]
  by_cases h : x - (l.length : Int) < 0
  · rw [if_pos h]
    exact ⟨-1, by omega, by omega, by omega, rfl⟩
  · rw [if_neg h]
    exact ⟨_, by omega, by omega, fun _ => by omega, rfl⟩
theorem toNodeS_ev (l : List S67) (hl : l.length ≤ 1048576) : Ev (fun k => laws_toNodeS.f k l) (l.map toNode) := by
  unfold laws_toNodeS.f
  simp only [Pl.ev_ite]
  rw [if_pos (by omega), if_pos (by simp; omega)]
  rw [show ((l.length : Int) : Int).toNat = l.length from by omega]
  refine Pl.fill (g := fun k i acc => laws_toNodeS.l0 k l acc i) (fun acc _ => ?_) (fun i hi acc ha ih => ?_)
  · refine Ev.step (fun k => by rw [laws_toNodeS.l0]) ?_
    simp [Pl.ev_some]
  · refine Ev.step (fun k => by rw [laws_toNodeS.l0]) ?_
    simp only [Pl.ev_ite, Pl.ev_some, Pl.ev_none, laws_toNode.f, Option.bind_some, rd_lNode l i hi, Pl.wrap_nat (show i < 9223372036854775807 by omega), Int.toNat_natCast]
    rw [if_pos (by omega), if_pos (by omega), if_pos (by omega)]
    exact ih
theorem eqNodeS_ev (l : List S45) (hl : l.length ≤ 1048576) : Ev (fun k => laws_eqNodeS.f k l l) true := by
  unfold laws_eqNodeS.f
  simp only [if_true]
  refine Pl.loop0 (n := l.length) (g := fun k i => laws_eqNodeS.l0 k l l i) (F := fun _ => true) ?_ (fun i hi ih => ?_) 0 (Nat.zero_le _)
  · refine Ev.step (fun k => by rw [laws_eqNodeS.l0]) ?_
    simp [Pl.ev_some]
  · refine Ev.step (fun k => by rw [laws_eqNodeS.l0]) ?_
    simp only [Pl.ev_ite, Pl.ev_some, Pl.ev_none, laws_eqNode.f, if_true, Option.bind_some, Pl.wrap_nat (show i < 9223372036854775807 by omega)]
    rw [if_pos (by omega), if_pos (by omega), if_pos (by omega)]
    exact ih
end Go.Proofs.YtmppibhdnajjjaaDoor.E
