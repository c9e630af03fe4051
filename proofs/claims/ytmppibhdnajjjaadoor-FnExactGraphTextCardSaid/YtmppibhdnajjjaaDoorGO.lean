-- Written by a program of this session's own (xp.py) for this seat.
import Derived.Test.YtmppibhdnajjjaaDoorG0
import Derived.Test.YtmppibhdnajjjaaDoorXOpen
namespace Go.Proofs.YtmppibhdnajjjaaDoor.G
open Go.RowKit Go.Proofs.YtmppibhdnajjjaaDoorW.PrintWords Go.Proofs.YtmppibhdnajjjaaDoorW.PrintLast Go.Proofs.YtmppibhdnajjjaaDoorW.PrintMore
attribute [local go_sem] Instr.field asAgg
attribute [local go_sem] max2_int min2_int max_two min_two max_three min_three max_four min_four   -- for this text's walks alone
set_option linter.unusedVariables false
set_option linter.unusedSimpArgs false

def wf67 (x : S67) : Prop := (Lit.int .i64 x.f0).wf = true ∧ ((Lit.int .i64 x.f1).wf = true ∧ ((Lit.int .i64 x.f2).wf = true ∧ ((Lit.int .i64 x.f3).wf = true)))
theorem op67 {H : Type} {enc : TypeId × Value → H} {w : World} {base : Nat} {spare : Nat → Bool} {held : Bool} : Opens enc Tryd.prog w base spare held k67 67 wf67 :=
  opens_struct (fun x : S67 => (x.f0, x.f1, x.f2, x.f3)) (fun p => ⟨p.1, p.2.1, p.2.2.1, p.2.2.2⟩) (fun _ => rfl) Tryd.underlying67 (by kernel_rfl) (opensF_cons (by rfl) (by kernel_rfl) (by rfl) (opens_int Tryd.underlying2) (opensF_cons (by rfl) (by kernel_rfl) (by rfl) (opens_int Tryd.underlying2) (opensF_cons (by rfl) (by kernel_rfl) (by rfl) (opens_int Tryd.underlying2) (opensF_last (by rfl) (by kernel_rfl) (opens_int Tryd.underlying2)))))
def wf135 (x : S135) : Prop := (Lit.int .i64 x.f0).wf = true ∧ ((Lit.int .i64 x.f1).wf = true ∧ (x.f2.size ≤ 9223372036854775807 ∧ ((Lit.int .i64 x.f3).wf = true ∧ ((x.f4.length ≤ 9223372036854775807 ∧ ∀ x_ ∈ x.f4, wf67 x_)))))
theorem op135 {H : Type} {enc : TypeId × Value → H} {w : World} {base : Nat} {spare : Nat → Bool} {held : Bool} : Opens enc Tryd.prog w base spare held k135 135 wf135 :=
  opens_struct (fun x : S135 => (x.f0, x.f1, x.f2, x.f3, x.f4)) (fun p => ⟨p.1, p.2.1, p.2.2.1, p.2.2.2.1, p.2.2.2.2⟩) (fun _ => rfl) Tryd.underlying135 (by kernel_rfl) (opensF_cons (by rfl) (by kernel_rfl) (by rfl) (opens_int Tryd.underlying2) (opensF_cons (by rfl) (by kernel_rfl) (by rfl) (opens_int Tryd.underlying2) (opensF_cons (by rfl) (by kernel_rfl) (by rfl) (opens_string Tryd.underlying9) (opensF_cons (by rfl) (by kernel_rfl) (by rfl) (opens_int Tryd.underlying2) (opensF_last (by rfl) (by kernel_rfl) (opens_slice Tryd.underlying27 (by kernel_rfl) op67))))))
def wf138 (x : S138) : Prop := (Lit.int .i64 x.f0).wf = true ∧ ((Lit.int .i64 x.f1).wf = true ∧ ((x.f2.length ≤ 9223372036854775807 ∧ ∀ x_ ∈ x.f2, wf67 x_)))
theorem op138 {H : Type} {enc : TypeId × Value → H} {w : World} {base : Nat} {spare : Nat → Bool} {held : Bool} : Opens enc Tryd.prog w base spare held k138 138 wf138 :=
  opens_struct (fun x : S138 => (x.f0, x.f1, x.f2)) (fun p => ⟨p.1, p.2.1, p.2.2⟩) (fun _ => rfl) Tryd.underlying138 (by kernel_rfl) (opensF_cons (by rfl) (by kernel_rfl) (by rfl) (opens_int Tryd.underlying2) (opensF_cons (by rfl) (by kernel_rfl) (by rfl) (opens_int Tryd.underlying2) (opensF_last (by rfl) (by kernel_rfl) (opens_slice Tryd.underlying27 (by kernel_rfl) op67))))
def wf49 (x : S49) : Prop := (x.f0.length ≤ 9223372036854775807 ∧ ∀ x_ ∈ x.f0, wf135 x_) ∧ ((x.f1.length ≤ 9223372036854775807 ∧ ∀ x_ ∈ x.f1, wf138 x_))
theorem op49 {H : Type} {enc : TypeId × Value → H} {w : World} {base : Nat} {spare : Nat → Bool} {held : Bool} : Opens enc Tryd.prog w base spare held k49 49 wf49 :=
  opens_struct (fun x : S49 => (x.f0, x.f1)) (fun p => ⟨p.1, p.2⟩) (fun _ => rfl) Tryd.underlying49 (by kernel_rfl) (opensF_cons (by rfl) (by kernel_rfl) (by rfl) (opens_slice Tryd.underlying46 (by kernel_rfl) op135) (opensF_last (by rfl) (by kernel_rfl) (opens_slice Tryd.underlying47 (by kernel_rfl) op138)))
end Go.Proofs.YtmppibhdnajjjaaDoor.G
