-- Written by a program of this session's own (xp.py) for this seat.
import Derived.Test.YtjlcajhlggoleaaQ0
import Derived.Test.YtjlcajhlggoleaaXOpen
namespace Go.Proofs.Ytjlcajhlggoleaa.Q
open Go.RowKit Go.Proofs.YtjlcajhlggoleaaW.PrintWords Go.Proofs.YtjlcajhlggoleaaW.PrintLast Go.Proofs.YtjlcajhlggoleaaW.PrintMore
attribute [local go_sem] max2_int min2_int max_two min_two max_three min_three max_four min_four   -- for this text's walks alone
set_option linter.unusedVariables false
set_option linter.unusedSimpArgs false

def wf79 (x : S79) : Prop := (Lit.int .i64 x.f0).wf = true ∧ ((Lit.int .i64 x.f1).wf = true ∧ ((Lit.int .i64 x.f2).wf = true ∧ ((Lit.int .i64 x.f3).wf = true)))
theorem op79 {H : Type} {enc : TypeId × Value → H} {w : World} {base : Nat} {spare : Nat → Bool} {held : Bool} : Opens enc Try.prog w base spare held k79 79 wf79 :=
  opens_struct (fun x : S79 => (x.f0, x.f1, x.f2, x.f3)) (fun p => ⟨p.1, p.2.1, p.2.2.1, p.2.2.2⟩) (fun _ => rfl) Try.underlying79 (by kernel_rfl) (opensF_cons (by rfl) (by kernel_rfl) (by rfl) (opens_int Try.underlying2) (opensF_cons (by rfl) (by kernel_rfl) (by rfl) (opens_int Try.underlying2) (opensF_cons (by rfl) (by kernel_rfl) (by rfl) (opens_int Try.underlying2) (opensF_last (by rfl) (by kernel_rfl) (opens_int Try.underlying2)))))
def wf156 (x : S156) : Prop := x.f0.size ≤ 9223372036854775807 ∧ (x.f1.size ≤ 9223372036854775807)
theorem op156 {H : Type} {enc : TypeId × Value → H} {w : World} {base : Nat} {spare : Nat → Bool} {held : Bool} : Opens enc Try.prog w base spare held k156 156 wf156 :=
  opens_struct (fun x : S156 => (x.f0, x.f1)) (fun p => ⟨p.1, p.2⟩) (fun _ => rfl) Try.underlying156 (by kernel_rfl) (opensF_cons (by rfl) (by kernel_rfl) (by rfl) (opens_string Try.underlying9) (opensF_last (by rfl) (by kernel_rfl) (opens_string Try.underlying9)))
def wf85 (x : S85) : Prop := x.f0.size ≤ 9223372036854775807 ∧ ((Lit.int .i64 x.f1).wf = true ∧ ((x.f2.length ≤ 9223372036854775807 ∧ ∀ x_ ∈ x.f2, wf156 x_)))
theorem op85 {H : Type} {enc : TypeId × Value → H} {w : World} {base : Nat} {spare : Nat → Bool} {held : Bool} : Opens enc Try.prog w base spare held k85 85 wf85 :=
  opens_struct (fun x : S85 => (x.f0, x.f1, x.f2)) (fun p => ⟨p.1, p.2.1, p.2.2⟩) (fun _ => rfl) Try.underlying85 (by kernel_rfl) (opensF_cons (by rfl) (by kernel_rfl) (by rfl) (opens_string Try.underlying9) (opensF_cons (by rfl) (by kernel_rfl) (by rfl) (opens_int Try.underlying2) (opensF_last (by rfl) (by kernel_rfl) (opens_slice Try.underlying83 (by kernel_rfl) op156))))
def wf97 (x : S97) : Prop := (Lit.int .i64 x.f0).wf = true ∧ ((Lit.int .i64 x.f1).wf = true ∧ (x.f2.size ≤ 9223372036854775807 ∧ ((Lit.int .i64 x.f3).wf = true ∧ ((x.f4.length ≤ 9223372036854775807 ∧ ∀ x_ ∈ x.f4, wf79 x_) ∧ ((x.f5.length ≤ 9223372036854775807 ∧ ∀ x_ ∈ x.f5, wf79 x_))))))
theorem op97 {H : Type} {enc : TypeId × Value → H} {w : World} {base : Nat} {spare : Nat → Bool} {held : Bool} : Opens enc Try.prog w base spare held k97 97 wf97 :=
  opens_struct (fun x : S97 => (x.f0, x.f1, x.f2, x.f3, x.f4, x.f5)) (fun p => ⟨p.1, p.2.1, p.2.2.1, p.2.2.2.1, p.2.2.2.2.1, p.2.2.2.2.2⟩) (fun _ => rfl) Try.underlying97 (by kernel_rfl) (opensF_cons (by rfl) (by kernel_rfl) (by rfl) (opens_int Try.underlying2) (opensF_cons (by rfl) (by kernel_rfl) (by rfl) (opens_int Try.underlying2) (opensF_cons (by rfl) (by kernel_rfl) (by rfl) (opens_string Try.underlying9) (opensF_cons (by rfl) (by kernel_rfl) (by rfl) (opens_int Try.underlying2) (opensF_cons (by rfl) (by kernel_rfl) (by rfl) (opens_slice Try.underlying30 (by kernel_rfl) op79) (opensF_last (by rfl) (by kernel_rfl) (opens_slice Try.underlying30 (by kernel_rfl) op79)))))))
end Go.Proofs.Ytjlcajhlggoleaa.Q
