-- Written by a program of this session's own (xp.py) for this seat.
import Derived.Test.YthoamjobclfjjaaGreatR0
import Derived.Test.YthoamjobclfjjaaGreatXOpen
namespace Go.Proofs.YthoamjobclfjjaaGreat.R
open Go.RowKit Go.Proofs.YthoamjobclfjjaaGreatW.PrintWords Go.Proofs.YthoamjobclfjjaaGreatW.PrintLast Go.Proofs.YthoamjobclfjjaaGreatW.PrintMore
attribute [local go_sem] Instr.field asAgg
attribute [local go_sem] max2_int min2_int max_two min_two max_three min_three max_four min_four   -- for this text's walks alone
set_option linter.unusedVariables false
set_option linter.unusedSimpArgs false

def wf65 (x : S65) : Prop := x.f0.size ≤ 9223372036854775807 ∧ (x.f1.size ≤ 9223372036854775807)
theorem op65 {H : Type} {enc : TypeId × Value → H} {w : World} {base : Nat} {spare : Nat → Bool} {held : Bool} : Opens enc Tryz.prog w base spare held k65 65 wf65 :=
  opens_struct (fun x : S65 => (x.f0, x.f1)) (fun p => ⟨p.1, p.2⟩) (fun _ => rfl) Tryz.underlying65 (by kernel_rfl) (opensF_cons (by rfl) (by kernel_rfl) (by rfl) (opens_string Tryz.underlying9) (opensF_last (by rfl) (by kernel_rfl) (opens_string Tryz.underlying9)))
def wf35 (x : S35) : Prop := x.f0.size ≤ 9223372036854775807 ∧ ((Lit.int .i64 x.f1).wf = true ∧ ((x.f2.length ≤ 9223372036854775807 ∧ ∀ x_ ∈ x.f2, wf65 x_)))
theorem op35 {H : Type} {enc : TypeId × Value → H} {w : World} {base : Nat} {spare : Nat → Bool} {held : Bool} : Opens enc Tryz.prog w base spare held k35 35 wf35 :=
  opens_struct (fun x : S35 => (x.f0, x.f1, x.f2)) (fun p => ⟨p.1, p.2.1, p.2.2⟩) (fun _ => rfl) Tryz.underlying35 (by kernel_rfl) (opensF_cons (by rfl) (by kernel_rfl) (by rfl) (opens_string Tryz.underlying9) (opensF_cons (by rfl) (by kernel_rfl) (by rfl) (opens_int Tryz.underlying2) (opensF_last (by rfl) (by kernel_rfl) (opens_slice Tryz.underlying33 (by kernel_rfl) op65))))
end Go.Proofs.YthoamjobclfjjaaGreat.R
