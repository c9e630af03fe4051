/- The program's constants are those of the reference: FnExactConstants returns true; no condition. -/
import Derived.Test.YtjlcajhlggoleaaPFnExactConstantsx1
namespace Go.Proofs.Ytjlcajhlggoleaa.Pure
open Go.RowKit Go.Proofs.Ytjlcajhlggoleaa.PFnExactConstants Go.Proofs.YtjlcajhlggoleaaW.PrintWords Go.Proofs.YtjlcajhlggoleaaW.PrintLast

/-- The law's Lean function answers true. -/
theorem FnExactConstants : laws_FnExactConstants.Pure := by
  unfold laws_FnExactConstants.Pure laws_FnExactConstants.f
  rfl

end Go.Proofs.Ytjlcajhlggoleaa.Pure
