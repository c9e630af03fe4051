/-
  No cell of these rows narrows 'for every input' (looked for: loops, veiled, ifaces, maps, wideKeys, modest, calm, conditions, laid).
  DERIVED. THE GIVEN ROWS OF THIS SEAT. 3 by the template 'for every input the law returns true; each argument reads behind the call as it read before'; 0 by the template 'total and deterministic' (their statements: YtfgidohkkbmfjaaTotals.lean).
  GIVEN WITH THE SEED: the statements are not yours to turn. If you find one false, say at which input.
  Laid BY PROGRAM, IN A SANDBOX (cutbox-rows.mjs): the forced cells as the released guide's own fill.sh prints them over the translation 2c8354bf0790cb0c… (all of the seat's roots in one cut). By AI agents, Wed Nov 11 2026. No macro, syntax, notation, axiom, sorry.
-/
import Derived.Test.YtfgidohkkbmfjaaChecked
import GoSem.Claim
import GoSem.ClaimJoined
import GoSem.ClaimMapViews
import Derived.JoinedTies
import Derived.KernelRfl
namespace Go.Proofs.Ytfgidohkkbmfjaa
/- THE CELL 'sum', in the pinned program and in every row, IS THE sha256 OF THE DUMP (.gsa) THAT YtfgidohkkbmfjaaProg.lean LOADS. Nothing in Lean hashes anything: it is a label: what it is worth is what the hold of that sum in a sandbox is worth. -/
noncomputable def Try.pinned : Pinned := { name := "ytfgidohkkbmfjaa", sum := "2c8354bf0790cb0c8b0f0be261f2ea4ba505c9a2cd26a5d1e8333fcb558f1c90", checked := Try.checked }
namespace Rows
def none {H : Type} : Left H := { results := [], args := [] }

/-- 'laws.FnExactEvalExpr': WHATEVER THE INPUT: true; the input reads as it did. -/
def fnExactEvalExprSpec : ChangeSpec := { name := "fnExactEvalExpr", fn := fun _ => fun
  | [d1, d2] => { results := [.lit (.bool true)], args := [d1, d2] }
  | _ => none }
def fnExactEvalExprRow : OpenClaim := { program := "ytfgidohkkbmfjaa", sum := "2c8354bf0790cb0c8b0f0be261f2ea4ba505c9a2cd26a5d1e8333fcb558f1c90", func := "loop.example/g00343/laws.FnExactEvalExpr", spec := "fnExactEvalExpr", unfollowed := true, recurses := true, apart := false }
def FnExactEvalExprSaid : Prop := fnExactEvalExprRow.holds Try.pinned (OpenSpec.ofChange fnExactEvalExprSpec)

/-- ITS FALSE NEIGHBOUR: 'it returns false'. Refute it at one input. -/
def fnExactEvalExprWrong : ChangeSpec := { name := "fnExactEvalExpr", fn := fun _ => fun
  | [d1, d2] => { results := [.lit (.bool false)], args := [d1, d2] }
  | _ => none }
def FnExactEvalExprWrongFalsely : Prop := fnExactEvalExprRow.holds Try.pinned (OpenSpec.ofChange fnExactEvalExprWrong)

/-- 'laws.FnExactVarsIn': WHATEVER THE INPUT: true; the input reads as it did. -/
def fnExactVarsInSpec : ChangeSpec := { name := "fnExactVarsIn", fn := fun _ => fun
  | [d] => { results := [.lit (.bool true)], args := [d] }
  | _ => none }
def fnExactVarsInRow : OpenClaim := { program := "ytfgidohkkbmfjaa", sum := "2c8354bf0790cb0c8b0f0be261f2ea4ba505c9a2cd26a5d1e8333fcb558f1c90", func := "loop.example/g00343/laws.FnExactVarsIn", spec := "fnExactVarsIn", recurses := true, apart := false }
def FnExactVarsInSaid : Prop := fnExactVarsInRow.holds Try.pinned (OpenSpec.ofChange fnExactVarsInSpec)

/-- ITS FALSE NEIGHBOUR: 'it returns false'. Refute it at one input. -/
def fnExactVarsInWrong : ChangeSpec := { name := "fnExactVarsIn", fn := fun _ => fun
  | [d] => { results := [.lit (.bool false)], args := [d] }
  | _ => none }
def FnExactVarsInWrongFalsely : Prop := fnExactVarsInRow.holds Try.pinned (OpenSpec.ofChange fnExactVarsInWrong)

/-- 'laws.FnEvals': WHATEVER THE INPUT: true; the input reads as it did. -/
def fnEvalsSpec : ChangeSpec := { name := "fnEvals", fn := fun _ => fun
  | [d] => { results := [.lit (.bool true)], args := [d] }
  | _ => none }
def fnEvalsRow : OpenClaim := { program := "ytfgidohkkbmfjaa", sum := "2c8354bf0790cb0c8b0f0be261f2ea4ba505c9a2cd26a5d1e8333fcb558f1c90", func := "loop.example/g00343/laws.FnEvals", spec := "fnEvals", unfollowed := true, recurses := true, apart := false }
def FnEvalsSaid : Prop := fnEvalsRow.holds Try.pinned (OpenSpec.ofChange fnEvalsSpec)

/-- ITS FALSE NEIGHBOUR: 'it returns false'. Refute it at one input. -/
def fnEvalsWrong : ChangeSpec := { name := "fnEvals", fn := fun _ => fun
  | [d] => { results := [.lit (.bool false)], args := [d] }
  | _ => none }
def FnEvalsWrongFalsely : Prop := fnEvalsRow.holds Try.pinned (OpenSpec.ofChange fnEvalsWrong)

/- THE SECOND FORM. 'bulk': how many values and letters a reading holds, each counted each time it is reached (what is shared counts as often as it is met; a slice's spare places count too). A statement '..UptoSaid' is the law's where the arguments, and the package variables that the reading takes, are together of bulk at most 1048576: NARROWER than '..Said'. Prove '..Said' where nothing that the law and all that it calls make is longer than what came in: it says more and counts as full. Else prove '..UptoSaid'. A law counts once. -/
mutual
def uptoBulk {H : Type} : DataW H → Nat
  | .lit (.string bytes) => bytes.length + 1
  | .lit _ => 1
  | .nil => 1
  | .ptr d => uptoBulk d + 1
  | .slice elems spare => uptoBulkAll elems + uptoBulkAll spare + 1
  | .agg parts => uptoBulkAll parts + 1
  | .iface _ d => uptoBulk d + 1
  | .map entries => uptoBulkEntries entries + 1
  | .held _ => 1
def uptoBulkAll {H : Type} : List (DataW H) → Nat
  | [] => 0
  | d :: r => uptoBulk d + uptoBulkAll r
def uptoBulkEntries {H : Type} : List (Lit × DataW H) → Nat
  | [] => 0
  | x :: r => uptoBulkEntry x + uptoBulkEntries r
def uptoBulkEntry {H : Type} : Lit × DataW H → Nat
  | (.string bytes, d) => bytes.length + uptoBulk d + 1
  | (_, d) => uptoBulk d + 1
 end
def uptoSmall : (H : Type) → List (DataW H) → Bool := fun _ ds => decide (uptoBulkAll ds ≤ 1048576)
def OpenSpec.upto (s : _root_.Go.ChangeSpec) : _root_.Go.OpenSpec := { _root_.Go.OpenSpec.ofChange s with cond := some uptoSmall }

/-- 'laws.FnExactEvalExpr', WHERE WHAT IT READS IS OF BULK AT MOST 1048576: true; the input reads as it did. -/
def fnExactEvalExprUptoRow : OpenClaim := { program := "ytfgidohkkbmfjaa", sum := "2c8354bf0790cb0c8b0f0be261f2ea4ba505c9a2cd26a5d1e8333fcb558f1c90", func := "loop.example/g00343/laws.FnExactEvalExpr", spec := "fnExactEvalExpr", unfollowed := true, recurses := true, apart := false, narrowed := true }
def FnExactEvalExprUptoSaid : Prop := fnExactEvalExprUptoRow.holds Try.pinned (OpenSpec.upto fnExactEvalExprSpec)

/-- 'laws.FnExactVarsIn', WHERE WHAT IT READS IS OF BULK AT MOST 1048576: true; the input reads as it did. -/
def fnExactVarsInUptoRow : OpenClaim := { program := "ytfgidohkkbmfjaa", sum := "2c8354bf0790cb0c8b0f0be261f2ea4ba505c9a2cd26a5d1e8333fcb558f1c90", func := "loop.example/g00343/laws.FnExactVarsIn", spec := "fnExactVarsIn", recurses := true, apart := false, narrowed := true }
def FnExactVarsInUptoSaid : Prop := fnExactVarsInUptoRow.holds Try.pinned (OpenSpec.upto fnExactVarsInSpec)

/-- 'laws.FnEvals', WHERE WHAT IT READS IS OF BULK AT MOST 1048576: true; the input reads as it did. -/
def fnEvalsUptoRow : OpenClaim := { program := "ytfgidohkkbmfjaa", sum := "2c8354bf0790cb0c8b0f0be261f2ea4ba505c9a2cd26a5d1e8333fcb558f1c90", func := "loop.example/g00343/laws.FnEvals", spec := "fnEvals", unfollowed := true, recurses := true, apart := false, narrowed := true }
def FnEvalsUptoSaid : Prop := fnEvalsUptoRow.holds Try.pinned (OpenSpec.upto fnEvalsSpec)

end Rows
end Go.Proofs.Ytfgidohkkbmfjaa
