-- Written by a program of this session's own (xp.py) for this seat.
import Derived.Test.YtjbcpghpafacaaaI0
import Derived.Test.YtjbcpghpafacaaaXOpen
namespace Go.Proofs.Ytjbcpghpafacaaa.I
open Go.RowKit Go.Proofs.YtjbcpghpafacaaaW.PrintWords Go.Proofs.YtjbcpghpafacaaaW.PrintLast Go.Proofs.YtjbcpghpafacaaaW.PrintMore
attribute [local go_sem] Instr.field asAgg
attribute [local go_sem] max2_int min2_int max_two min_two max_three min_three max_four min_four   -- for this text's walks alone
set_option linter.unusedVariables false
set_option linter.unusedSimpArgs false

def wf76 (x : S76) : Prop := (Lit.int .i64 x.f0).wf = true ∧ ((Lit.int .i64 x.f1).wf = true ∧ ((Lit.int .i64 x.f2).wf = true ∧ ((Lit.int .i64 x.f3).wf = true)))
theorem op76 {H : Type} {enc : TypeId × Value → H} {w : World} {base : Nat} {spare : Nat → Bool} {held : Bool} : Opens enc Try.prog w base spare held k76 76 wf76 :=
  opens_struct (fun x : S76 => (x.f0, x.f1, x.f2, x.f3)) (fun p => ⟨p.1, p.2.1, p.2.2.1, p.2.2.2⟩) (fun _ => rfl) Try.underlying76 (by kernel_rfl) (opensF_cons (by rfl) (by kernel_rfl) (by rfl) (opens_int Try.underlying2) (opensF_cons (by rfl) (by kernel_rfl) (by rfl) (opens_int Try.underlying2) (opensF_cons (by rfl) (by kernel_rfl) (by rfl) (opens_int Try.underlying2) (opensF_last (by rfl) (by kernel_rfl) (opens_int Try.underlying2)))))
def wf32 (x : S32) : Prop := (Lit.int .i64 x.f0).wf = true ∧ ((Lit.int .i64 x.f1).wf = true ∧ (x.f2.size ≤ 9223372036854775807 ∧ ((Lit.int .i64 x.f3).wf = true ∧ ((x.f4.length ≤ 9223372036854775807 ∧ ∀ x_ ∈ x.f4, wf76 x_) ∧ ((x.f5.length ≤ 9223372036854775807 ∧ ∀ x_ ∈ x.f5, wf76 x_))))))
theorem op32 {H : Type} {enc : TypeId × Value → H} {w : World} {base : Nat} {spare : Nat → Bool} {held : Bool} : Opens enc Try.prog w base spare held k32 32 wf32 :=
  opens_struct (fun x : S32 => (x.f0, x.f1, x.f2, x.f3, x.f4, x.f5)) (fun p => ⟨p.1, p.2.1, p.2.2.1, p.2.2.2.1, p.2.2.2.2.1, p.2.2.2.2.2⟩) (fun _ => rfl) Try.underlying32 (by kernel_rfl) (opensF_cons (by rfl) (by kernel_rfl) (by rfl) (opens_int Try.underlying2) (opensF_cons (by rfl) (by kernel_rfl) (by rfl) (opens_int Try.underlying2) (opensF_cons (by rfl) (by kernel_rfl) (by rfl) (opens_string Try.underlying9) (opensF_cons (by rfl) (by kernel_rfl) (by rfl) (opens_int Try.underlying2) (opensF_cons (by rfl) (by kernel_rfl) (by rfl) (opens_slice Try.underlying30 (by kernel_rfl) op76) (opensF_last (by rfl) (by kernel_rfl) (opens_slice Try.underlying30 (by kernel_rfl) op76)))))))
end Go.Proofs.Ytjbcpghpafacaaa.I
