-- Written by a program of this session's own (xp.py) for this seat.
import Derived.Test.YtcpcenhpmcfmjaaF0
import Derived.Test.YtcpcenhpmcfmjaaXOpen
namespace Go.Proofs.Ytcpcenhpmcfmjaa.F
open Go.RowKit Go.Proofs.YtcpcenhpmcfmjaaW.PrintWords Go.Proofs.YtcpcenhpmcfmjaaW.PrintLast Go.Proofs.YtcpcenhpmcfmjaaW.PrintMore
attribute [local go_sem] Instr.field asAgg
attribute [local go_sem] max2_int min2_int max_two min_two max_three min_three max_four min_four   -- for this text's walks alone
set_option linter.unusedVariables false
set_option linter.unusedSimpArgs false

def wf149 (x : S149) : Prop := (Lit.int .i64 x.f0).wf = true ∧ ((Lit.int .i64 x.f1).wf = true ∧ ((Lit.int .i64 x.f2).wf = true ∧ ((Lit.int .i64 x.f3).wf = true)))
theorem op149 {H : Type} {enc : TypeId × Value → H} {w : World} {base : Nat} {spare : Nat → Bool} {held : Bool} : Opens enc Try.prog w base spare held k149 149 wf149 :=
  opens_struct (fun x : S149 => (x.f0, x.f1, x.f2, x.f3)) (fun p => ⟨p.1, p.2.1, p.2.2.1, p.2.2.2⟩) (fun _ => rfl) Try.underlying149 (by kernel_rfl) (opensF_cons (by rfl) (by kernel_rfl) (by rfl) (opens_int Try.underlying2) (opensF_cons (by rfl) (by kernel_rfl) (by rfl) (opens_int Try.underlying2) (opensF_cons (by rfl) (by kernel_rfl) (by rfl) (opens_int Try.underlying2) (opensF_last (by rfl) (by kernel_rfl) (opens_int Try.underlying2)))))
def wf100 (x : S100) : Prop := (Lit.int .i64 x.f0).wf = true ∧ ((Lit.int .i64 x.f1).wf = true ∧ (x.f2.size ≤ 9223372036854775807 ∧ ((Lit.int .i64 x.f3).wf = true ∧ ((x.f4.length ≤ 9223372036854775807 ∧ ∀ x_ ∈ x.f4, wf149 x_)))))
theorem op100 {H : Type} {enc : TypeId × Value → H} {w : World} {base : Nat} {spare : Nat → Bool} {held : Bool} : Opens enc Try.prog w base spare held k100 100 wf100 :=
  opens_struct (fun x : S100 => (x.f0, x.f1, x.f2, x.f3, x.f4)) (fun p => ⟨p.1, p.2.1, p.2.2.1, p.2.2.2.1, p.2.2.2.2⟩) (fun _ => rfl) Try.underlying100 (by kernel_rfl) (opensF_cons (by rfl) (by kernel_rfl) (by rfl) (opens_int Try.underlying2) (opensF_cons (by rfl) (by kernel_rfl) (by rfl) (opens_int Try.underlying2) (opensF_cons (by rfl) (by kernel_rfl) (by rfl) (opens_string Try.underlying9) (opensF_cons (by rfl) (by kernel_rfl) (by rfl) (opens_int Try.underlying2) (opensF_last (by rfl) (by kernel_rfl) (opens_slice Try.underlying73 (by kernel_rfl) op149))))))
def wf103 (x : S103) : Prop := (Lit.int .i64 x.f0).wf = true ∧ ((Lit.int .i64 x.f1).wf = true ∧ ((x.f2.length ≤ 9223372036854775807 ∧ ∀ x_ ∈ x.f2, wf149 x_)))
theorem op103 {H : Type} {enc : TypeId × Value → H} {w : World} {base : Nat} {spare : Nat → Bool} {held : Bool} : Opens enc Try.prog w base spare held k103 103 wf103 :=
  opens_struct (fun x : S103 => (x.f0, x.f1, x.f2)) (fun p => ⟨p.1, p.2.1, p.2.2⟩) (fun _ => rfl) Try.underlying103 (by kernel_rfl) (opensF_cons (by rfl) (by kernel_rfl) (by rfl) (opens_int Try.underlying2) (opensF_cons (by rfl) (by kernel_rfl) (by rfl) (opens_int Try.underlying2) (opensF_last (by rfl) (by kernel_rfl) (opens_slice Try.underlying73 (by kernel_rfl) op149))))
def wf25 (x : S25) : Prop := (x.f0.length ≤ 9223372036854775807 ∧ ∀ x_ ∈ x.f0, wf100 x_) ∧ ((x.f1.length ≤ 9223372036854775807 ∧ ∀ x_ ∈ x.f1, wf103 x_))
theorem op25 {H : Type} {enc : TypeId × Value → H} {w : World} {base : Nat} {spare : Nat → Bool} {held : Bool} : Opens enc Try.prog w base spare held k25 25 wf25 :=
  opens_struct (fun x : S25 => (x.f0, x.f1)) (fun p => ⟨p.1, p.2⟩) (fun _ => rfl) Try.underlying25 (by kernel_rfl) (opensF_cons (by rfl) (by kernel_rfl) (by rfl) (opens_slice Try.underlying22 (by kernel_rfl) op100) (opensF_last (by rfl) (by kernel_rfl) (opens_slice Try.underlying23 (by kernel_rfl) op103)))
end Go.Proofs.Ytcpcenhpmcfmjaa.F
