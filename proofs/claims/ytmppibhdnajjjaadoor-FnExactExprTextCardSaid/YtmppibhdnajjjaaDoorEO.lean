-- Written by a program of this session's own (xp.py) for this seat.
import Derived.Test.YtmppibhdnajjjaaDoorE0
import Derived.Test.YtmppibhdnajjjaaDoorXOpen
namespace Go.Proofs.YtmppibhdnajjjaaDoor.E
open Go.RowKit Go.Proofs.YtmppibhdnajjjaaDoorW.PrintWords Go.Proofs.YtmppibhdnajjjaaDoorW.PrintLast Go.Proofs.YtmppibhdnajjjaaDoorW.PrintMore
attribute [local go_sem] Instr.field asAgg
attribute [local go_sem] max2_int min2_int max_two min_two max_three min_three max_four min_four   -- for this text's walks alone
set_option linter.unusedVariables false
set_option linter.unusedSimpArgs false

def wf67 (x : S67) : Prop := (Lit.int .i64 x.f0).wf = true ∧ ((Lit.int .i64 x.f1).wf = true ∧ ((Lit.int .i64 x.f2).wf = true ∧ ((Lit.int .i64 x.f3).wf = true)))
theorem op67 {H : Type} {enc : TypeId × Value → H} {w : World} {base : Nat} {spare : Nat → Bool} {held : Bool} : Opens enc Tryd.prog w base spare held k67 67 wf67 :=
  opens_struct (fun x : S67 => (x.f0, x.f1, x.f2, x.f3)) (fun p => ⟨p.1, p.2.1, p.2.2.1, p.2.2.2⟩) (fun _ => rfl) Tryd.underlying67 (by kernel_rfl) (opensF_cons (by rfl) (by kernel_rfl) (by rfl) (opens_int Tryd.underlying2) (opensF_cons (by rfl) (by kernel_rfl) (by rfl) (opens_int Tryd.underlying2) (opensF_cons (by rfl) (by kernel_rfl) (by rfl) (opens_int Tryd.underlying2) (opensF_last (by rfl) (by kernel_rfl) (opens_int Tryd.underlying2)))))
end Go.Proofs.YtmppibhdnajjjaaDoor.E
