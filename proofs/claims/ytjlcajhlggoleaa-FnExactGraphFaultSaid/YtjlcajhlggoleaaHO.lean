-- Written by a program of this session's own (xp.py) for this seat.
import Derived.Test.YtjlcajhlggoleaaH0
import Derived.Test.YtjlcajhlggoleaaXOpen
namespace Go.Proofs.Ytjlcajhlggoleaa.H
open Go.RowKit Go.Proofs.YtjlcajhlggoleaaW.PrintWords Go.Proofs.YtjlcajhlggoleaaW.PrintLast Go.Proofs.YtjlcajhlggoleaaW.PrintMore
attribute [local go_sem] Instr.field asAgg
attribute [local go_sem] max2_int min2_int max_two min_two max_three min_three max_four min_four   -- for this text's walks alone
set_option linter.unusedVariables false
set_option linter.unusedSimpArgs false

def wf79 (x : S79) : Prop := (Lit.int .i64 x.f0).wf = true ∧ ((Lit.int .i64 x.f1).wf = true ∧ ((Lit.int .i64 x.f2).wf = true ∧ ((Lit.int .i64 x.f3).wf = true)))
theorem op79 {H : Type} {enc : TypeId × Value → H} {w : World} {base : Nat} {spare : Nat → Bool} {held : Bool} : Opens enc Try.prog w base spare held k79 79 wf79 :=
  opens_struct (fun x : S79 => (x.f0, x.f1, x.f2, x.f3)) (fun p => ⟨p.1, p.2.1, p.2.2.1, p.2.2.2⟩) (fun _ => rfl) Try.underlying79 (by kernel_rfl) (opensF_cons (by rfl) (by kernel_rfl) (by rfl) (opens_int Try.underlying2) (opensF_cons (by rfl) (by kernel_rfl) (by rfl) (opens_int Try.underlying2) (opensF_cons (by rfl) (by kernel_rfl) (by rfl) (opens_int Try.underlying2) (opensF_last (by rfl) (by kernel_rfl) (opens_int Try.underlying2)))))
def wf142 (x : S142) : Prop := (Lit.int .i64 x.f0).wf = true ∧ ((Lit.int .i64 x.f1).wf = true ∧ (x.f2.size ≤ 9223372036854775807 ∧ ((Lit.int .i64 x.f3).wf = true ∧ ((x.f4.length ≤ 9223372036854775807 ∧ ∀ x_ ∈ x.f4, wf79 x_)))))
theorem op142 {H : Type} {enc : TypeId × Value → H} {w : World} {base : Nat} {spare : Nat → Bool} {held : Bool} : Opens enc Try.prog w base spare held k142 142 wf142 :=
  opens_struct (fun x : S142 => (x.f0, x.f1, x.f2, x.f3, x.f4)) (fun p => ⟨p.1, p.2.1, p.2.2.1, p.2.2.2.1, p.2.2.2.2⟩) (fun _ => rfl) Try.underlying142 (by kernel_rfl) (opensF_cons (by rfl) (by kernel_rfl) (by rfl) (opens_int Try.underlying2) (opensF_cons (by rfl) (by kernel_rfl) (by rfl) (opens_int Try.underlying2) (opensF_cons (by rfl) (by kernel_rfl) (by rfl) (opens_string Try.underlying9) (opensF_cons (by rfl) (by kernel_rfl) (by rfl) (opens_int Try.underlying2) (opensF_last (by rfl) (by kernel_rfl) (opens_slice Try.underlying30 (by kernel_rfl) op79))))))
def wf145 (x : S145) : Prop := (Lit.int .i64 x.f0).wf = true ∧ ((Lit.int .i64 x.f1).wf = true ∧ ((x.f2.length ≤ 9223372036854775807 ∧ ∀ x_ ∈ x.f2, wf79 x_)))
theorem op145 {H : Type} {enc : TypeId × Value → H} {w : World} {base : Nat} {spare : Nat → Bool} {held : Bool} : Opens enc Try.prog w base spare held k145 145 wf145 :=
  opens_struct (fun x : S145 => (x.f0, x.f1, x.f2)) (fun p => ⟨p.1, p.2.1, p.2.2⟩) (fun _ => rfl) Try.underlying145 (by kernel_rfl) (opensF_cons (by rfl) (by kernel_rfl) (by rfl) (opens_int Try.underlying2) (opensF_cons (by rfl) (by kernel_rfl) (by rfl) (opens_int Try.underlying2) (opensF_last (by rfl) (by kernel_rfl) (opens_slice Try.underlying30 (by kernel_rfl) op79))))
def wf56 (x : S56) : Prop := (x.f0.length ≤ 9223372036854775807 ∧ ∀ x_ ∈ x.f0, wf142 x_) ∧ ((x.f1.length ≤ 9223372036854775807 ∧ ∀ x_ ∈ x.f1, wf145 x_))
theorem op56 {H : Type} {enc : TypeId × Value → H} {w : World} {base : Nat} {spare : Nat → Bool} {held : Bool} : Opens enc Try.prog w base spare held k56 56 wf56 :=
  opens_struct (fun x : S56 => (x.f0, x.f1)) (fun p => ⟨p.1, p.2⟩) (fun _ => rfl) Try.underlying56 (by kernel_rfl) (opensF_cons (by rfl) (by kernel_rfl) (by rfl) (opens_slice Try.underlying53 (by kernel_rfl) op142) (opensF_last (by rfl) (by kernel_rfl) (opens_slice Try.underlying54 (by kernel_rfl) op145)))
end Go.Proofs.Ytjlcajhlggoleaa.H
