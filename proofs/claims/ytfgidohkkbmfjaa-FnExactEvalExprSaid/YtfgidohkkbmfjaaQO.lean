-- Written by a program of this session's own (xp.py) for this seat.
import Derived.Test.YtfgidohkkbmfjaaQ0
import Derived.Test.YtfgidohkkbmfjaaXOpen
namespace Go.Proofs.Ytfgidohkkbmfjaa.Q
open Go.RowKit Go.Proofs.YtfgidohkkbmfjaaW.PrintWords Go.Proofs.YtfgidohkkbmfjaaW.PrintLast Go.Proofs.YtfgidohkkbmfjaaW.PrintMore
attribute [local go_sem] max2_int min2_int max_two min_two max_three min_three max_four min_four   -- for this text's walks alone
set_option linter.unusedVariables false
set_option linter.unusedSimpArgs false

def wf56 (x : S56) : Prop := (Lit.int .i64 x.f0).wf = true ∧ ((Lit.int .i64 x.f1).wf = true ∧ ((Lit.int .i64 x.f2).wf = true ∧ ((Lit.int .i64 x.f3).wf = true)))
theorem op56 {H : Type} {enc : TypeId × Value → H} {w : World} {base : Nat} {spare : Nat → Bool} {held : Bool} : Opens enc Try.prog w base spare held k56 56 wf56 :=
  opens_struct (fun x : S56 => (x.f0, x.f1, x.f2, x.f3)) (fun p => ⟨p.1, p.2.1, p.2.2.1, p.2.2.2⟩) (fun _ => rfl) Try.underlying56 (by kernel_rfl) (opensF_cons (by rfl) (by kernel_rfl) (by rfl) (opens_int Try.underlying2) (opensF_cons (by rfl) (by kernel_rfl) (by rfl) (opens_int Try.underlying2) (opensF_cons (by rfl) (by kernel_rfl) (by rfl) (opens_int Try.underlying2) (opensF_last (by rfl) (by kernel_rfl) (opens_int Try.underlying2)))))
end Go.Proofs.Ytfgidohkkbmfjaa.Q
