/-
  No cell of these rows narrows 'for every input' (looked for: loops, veiled, ifaces, maps, wideKeys, modest, calm, conditions, laid).
  DERIVED. THE GIVEN ROWS OF THIS SEAT. 11 by the template 'for every input the law returns true; each argument reads behind the call as it read before'; 0 by the template 'total and deterministic' (their statements: YtjlcajhlggoleaaTotals.lean).
  GIVEN WITH THE SEED: the statements are not yours to turn. If you find one false, say at which input.
  Laid BY PROGRAM, IN A SANDBOX (cutbox-rows.mjs): the forced cells as the released guide's own fill.sh prints them over the translation 3b8b7bd1e616bf45… (all of the seat's roots in one cut). By AI agents, Wed Nov 11 2026. No macro, syntax, notation, axiom, sorry.
-/
import Derived.Test.YtjlcajhlggoleaaChecked
import GoSem.Claim
import GoSem.ClaimJoined
import GoSem.ClaimMapViews
import Derived.JoinedTies
import Derived.KernelRfl
namespace Go.Proofs.Ytjlcajhlggoleaa
/- THE CELL 'sum', in the pinned program and in every row, IS THE sha256 OF THE DUMP (.gsa) THAT YtjlcajhlggoleaaProg.lean LOADS. Nothing in Lean hashes anything: it is a label: what it is worth is what the hold of that sum in a sandbox is worth. -/
noncomputable def Try.pinned : Pinned := { name := "ytjlcajhlggoleaa", sum := "3b8b7bd1e616bf4513c7fd86094892dfaaf7540606664de40d50d801f7d92cc5", checked := Try.checked }
namespace Rows
def none {H : Type} : Left H := { results := [], args := [] }

/-- 'laws.FnExactConstants': WHATEVER THE INPUT: true; the input reads as it did. -/
def fnExactConstantsSpec : ChangeSpec := { name := "fnExactConstants", fn := fun _ => fun
  | [] => { results := [.lit (.bool true)], args := [] }
  | _ => none }
def fnExactConstantsRow : OpenClaim := { program := "ytjlcajhlggoleaa", sum := "3b8b7bd1e616bf4513c7fd86094892dfaaf7540606664de40d50d801f7d92cc5", func := "loop.example/g00343/laws.FnExactConstants", spec := "fnExactConstants", apart := false }
def FnExactConstantsSaid : Prop := fnExactConstantsRow.holds Try.pinned (OpenSpec.ofChange fnExactConstantsSpec)

/-- ITS FALSE NEIGHBOUR: 'it returns false'. Refute it at one input. -/
def fnExactConstantsWrong : ChangeSpec := { name := "fnExactConstants", fn := fun _ => fun
  | [] => { results := [.lit (.bool false)], args := [] }
  | _ => none }
def FnExactConstantsWrongFalsely : Prop := fnExactConstantsRow.holds Try.pinned (OpenSpec.ofChange fnExactConstantsWrong)

/-- 'laws.FnExactIsSpace': WHATEVER THE INPUT: true; the input reads as it did. -/
def fnExactIsSpaceSpec : ChangeSpec := { name := "fnExactIsSpace", fn := fun _ => fun
  | [d] => { results := [.lit (.bool true)], args := [d] }
  | _ => none }
def fnExactIsSpaceRow : OpenClaim := { program := "ytjlcajhlggoleaa", sum := "3b8b7bd1e616bf4513c7fd86094892dfaaf7540606664de40d50d801f7d92cc5", func := "loop.example/g00343/laws.FnExactIsSpace", spec := "fnExactIsSpace", unfollowed := true, recurses := true, apart := false }
def FnExactIsSpaceSaid : Prop := fnExactIsSpaceRow.holds Try.pinned (OpenSpec.ofChange fnExactIsSpaceSpec)

/-- ITS FALSE NEIGHBOUR: 'it returns false'. Refute it at one input. -/
def fnExactIsSpaceWrong : ChangeSpec := { name := "fnExactIsSpace", fn := fun _ => fun
  | [d] => { results := [.lit (.bool false)], args := [d] }
  | _ => none }
def FnExactIsSpaceWrongFalsely : Prop := fnExactIsSpaceRow.holds Try.pinned (OpenSpec.ofChange fnExactIsSpaceWrong)

/-- 'laws.FnExactNameFault': WHATEVER THE INPUT: true; the input reads as it did. -/
def fnExactNameFaultSpec : ChangeSpec := { name := "fnExactNameFault", fn := fun _ => fun
  | [d] => { results := [.lit (.bool true)], args := [d] }
  | _ => none }
def fnExactNameFaultRow : OpenClaim := { program := "ytjlcajhlggoleaa", sum := "3b8b7bd1e616bf4513c7fd86094892dfaaf7540606664de40d50d801f7d92cc5", func := "loop.example/g00343/laws.FnExactNameFault", spec := "fnExactNameFault", unfollowed := true, recurses := true, apart := false }
def FnExactNameFaultSaid : Prop := fnExactNameFaultRow.holds Try.pinned (OpenSpec.ofChange fnExactNameFaultSpec)

/-- ITS FALSE NEIGHBOUR: 'it returns false'. Refute it at one input. -/
def fnExactNameFaultWrong : ChangeSpec := { name := "fnExactNameFault", fn := fun _ => fun
  | [d] => { results := [.lit (.bool false)], args := [d] }
  | _ => none }
def FnExactNameFaultWrongFalsely : Prop := fnExactNameFaultRow.holds Try.pinned (OpenSpec.ofChange fnExactNameFaultWrong)

/-- 'laws.FnExactVarsFault': WHATEVER THE INPUT: true; the input reads as it did. -/
def fnExactVarsFaultSpec : ChangeSpec := { name := "fnExactVarsFault", fn := fun _ => fun
  | [d] => { results := [.lit (.bool true)], args := [d] }
  | _ => none }
def fnExactVarsFaultRow : OpenClaim := { program := "ytjlcajhlggoleaa", sum := "3b8b7bd1e616bf4513c7fd86094892dfaaf7540606664de40d50d801f7d92cc5", func := "loop.example/g00343/laws.FnExactVarsFault", spec := "fnExactVarsFault", unfollowed := true, recurses := true, apart := false }
def FnExactVarsFaultSaid : Prop := fnExactVarsFaultRow.holds Try.pinned (OpenSpec.ofChange fnExactVarsFaultSpec)

/-- ITS FALSE NEIGHBOUR: 'it returns false'. Refute it at one input. -/
def fnExactVarsFaultWrong : ChangeSpec := { name := "fnExactVarsFault", fn := fun _ => fun
  | [d] => { results := [.lit (.bool false)], args := [d] }
  | _ => none }
def FnExactVarsFaultWrongFalsely : Prop := fnExactVarsFaultRow.holds Try.pinned (OpenSpec.ofChange fnExactVarsFaultWrong)

/-- 'laws.FnExactExprFault': WHATEVER THE INPUT: true; the input reads as it did. -/
def fnExactExprFaultSpec : ChangeSpec := { name := "fnExactExprFault", fn := fun _ => fun
  | [d] => { results := [.lit (.bool true)], args := [d] }
  | _ => none }
def fnExactExprFaultRow : OpenClaim := { program := "ytjlcajhlggoleaa", sum := "3b8b7bd1e616bf4513c7fd86094892dfaaf7540606664de40d50d801f7d92cc5", func := "loop.example/g00343/laws.FnExactExprFault", spec := "fnExactExprFault", recurses := true, apart := false }
def FnExactExprFaultSaid : Prop := fnExactExprFaultRow.holds Try.pinned (OpenSpec.ofChange fnExactExprFaultSpec)

/-- ITS FALSE NEIGHBOUR: 'it returns false'. Refute it at one input. -/
def fnExactExprFaultWrong : ChangeSpec := { name := "fnExactExprFault", fn := fun _ => fun
  | [d] => { results := [.lit (.bool false)], args := [d] }
  | _ => none }
def FnExactExprFaultWrongFalsely : Prop := fnExactExprFaultRow.holds Try.pinned (OpenSpec.ofChange fnExactExprFaultWrong)

/-- 'laws.FnExactSameTrees': WHATEVER THE INPUT: true; the input reads as it did. -/
def fnExactSameTreesSpec : ChangeSpec := { name := "fnExactSameTrees", fn := fun _ => fun
  | [d1, d2] => { results := [.lit (.bool true)], args := [d1, d2] }
  | _ => none }
def fnExactSameTreesRow : OpenClaim := { program := "ytjlcajhlggoleaa", sum := "3b8b7bd1e616bf4513c7fd86094892dfaaf7540606664de40d50d801f7d92cc5", func := "loop.example/g00343/laws.FnExactSameTrees", spec := "fnExactSameTrees", unfollowed := true, recurses := true, apart := false }
def FnExactSameTreesSaid : Prop := fnExactSameTreesRow.holds Try.pinned (OpenSpec.ofChange fnExactSameTreesSpec)

/-- ITS FALSE NEIGHBOUR: 'it returns false'. Refute it at one input. -/
def fnExactSameTreesWrong : ChangeSpec := { name := "fnExactSameTrees", fn := fun _ => fun
  | [d1, d2] => { results := [.lit (.bool false)], args := [d1, d2] }
  | _ => none }
def FnExactSameTreesWrongFalsely : Prop := fnExactSameTreesRow.holds Try.pinned (OpenSpec.ofChange fnExactSameTreesWrong)

/-- 'laws.FnExactSameProcs': WHATEVER THE INPUT: true; the input reads as it did. -/
def fnExactSameProcsSpec : ChangeSpec := { name := "fnExactSameProcs", fn := fun _ => fun
  | [d1, d2] => { results := [.lit (.bool true)], args := [d1, d2] }
  | _ => none }
def fnExactSameProcsRow : OpenClaim := { program := "ytjlcajhlggoleaa", sum := "3b8b7bd1e616bf4513c7fd86094892dfaaf7540606664de40d50d801f7d92cc5", func := "loop.example/g00343/laws.FnExactSameProcs", spec := "fnExactSameProcs", unfollowed := true, recurses := true, apart := false }
def FnExactSameProcsSaid : Prop := fnExactSameProcsRow.holds Try.pinned (OpenSpec.ofChange fnExactSameProcsSpec)

/-- ITS FALSE NEIGHBOUR: 'it returns false'. Refute it at one input. -/
def fnExactSameProcsWrong : ChangeSpec := { name := "fnExactSameProcs", fn := fun _ => fun
  | [d1, d2] => { results := [.lit (.bool false)], args := [d1, d2] }
  | _ => none }
def FnExactSameProcsWrongFalsely : Prop := fnExactSameProcsRow.holds Try.pinned (OpenSpec.ofChange fnExactSameProcsWrong)

/-- 'laws.FnExactTypeOf': WHATEVER THE INPUT: true; the input reads as it did. -/
def fnExactTypeOfSpec : ChangeSpec := { name := "fnExactTypeOf", fn := fun _ => fun
  | [d] => { results := [.lit (.bool true)], args := [d] }
  | _ => none }
def fnExactTypeOfRow : OpenClaim := { program := "ytjlcajhlggoleaa", sum := "3b8b7bd1e616bf4513c7fd86094892dfaaf7540606664de40d50d801f7d92cc5", func := "loop.example/g00343/laws.FnExactTypeOf", spec := "fnExactTypeOf", recurses := true, apart := false }
def FnExactTypeOfSaid : Prop := fnExactTypeOfRow.holds Try.pinned (OpenSpec.ofChange fnExactTypeOfSpec)

/-- ITS FALSE NEIGHBOUR: 'it returns false'. Refute it at one input. -/
def fnExactTypeOfWrong : ChangeSpec := { name := "fnExactTypeOf", fn := fun _ => fun
  | [d] => { results := [.lit (.bool false)], args := [d] }
  | _ => none }
def FnExactTypeOfWrongFalsely : Prop := fnExactTypeOfRow.holds Try.pinned (OpenSpec.ofChange fnExactTypeOfWrong)

/-- 'laws.FnExactSameGraphs': WHATEVER THE INPUT: true; the input reads as it did. -/
def fnExactSameGraphsSpec : ChangeSpec := { name := "fnExactSameGraphs", fn := fun _ => fun
  | [d1, d2] => { results := [.lit (.bool true)], args := [d1, d2] }
  | _ => none }
def fnExactSameGraphsRow : OpenClaim := { program := "ytjlcajhlggoleaa", sum := "3b8b7bd1e616bf4513c7fd86094892dfaaf7540606664de40d50d801f7d92cc5", func := "loop.example/g00343/laws.FnExactSameGraphs", spec := "fnExactSameGraphs", unfollowed := true, recurses := true, apart := false }
def FnExactSameGraphsSaid : Prop := fnExactSameGraphsRow.holds Try.pinned (OpenSpec.ofChange fnExactSameGraphsSpec)

/-- ITS FALSE NEIGHBOUR: 'it returns false'. Refute it at one input. -/
def fnExactSameGraphsWrong : ChangeSpec := { name := "fnExactSameGraphs", fn := fun _ => fun
  | [d1, d2] => { results := [.lit (.bool false)], args := [d1, d2] }
  | _ => none }
def FnExactSameGraphsWrongFalsely : Prop := fnExactSameGraphsRow.holds Try.pinned (OpenSpec.ofChange fnExactSameGraphsWrong)

/-- 'laws.FnExactTreeFault': WHATEVER THE INPUT: true; the input reads as it did. -/
def fnExactTreeFaultSpec : ChangeSpec := { name := "fnExactTreeFault", fn := fun _ => fun
  | [d] => { results := [.lit (.bool true)], args := [d] }
  | _ => none }
def fnExactTreeFaultRow : OpenClaim := { program := "ytjlcajhlggoleaa", sum := "3b8b7bd1e616bf4513c7fd86094892dfaaf7540606664de40d50d801f7d92cc5", func := "loop.example/g00343/laws.FnExactTreeFault", spec := "fnExactTreeFault", unfollowed := true, recurses := true, apart := false }
def FnExactTreeFaultSaid : Prop := fnExactTreeFaultRow.holds Try.pinned (OpenSpec.ofChange fnExactTreeFaultSpec)

/-- ITS FALSE NEIGHBOUR: 'it returns false'. Refute it at one input. -/
def fnExactTreeFaultWrong : ChangeSpec := { name := "fnExactTreeFault", fn := fun _ => fun
  | [d] => { results := [.lit (.bool false)], args := [d] }
  | _ => none }
def FnExactTreeFaultWrongFalsely : Prop := fnExactTreeFaultRow.holds Try.pinned (OpenSpec.ofChange fnExactTreeFaultWrong)

/-- 'laws.FnExactGraphFault': WHATEVER THE INPUT: true; the input reads as it did. -/
def fnExactGraphFaultSpec : ChangeSpec := { name := "fnExactGraphFault", fn := fun _ => fun
  | [d] => { results := [.lit (.bool true)], args := [d] }
  | _ => none }
def fnExactGraphFaultRow : OpenClaim := { program := "ytjlcajhlggoleaa", sum := "3b8b7bd1e616bf4513c7fd86094892dfaaf7540606664de40d50d801f7d92cc5", func := "loop.example/g00343/laws.FnExactGraphFault", spec := "fnExactGraphFault", unfollowed := true, recurses := true, apart := false }
def FnExactGraphFaultSaid : Prop := fnExactGraphFaultRow.holds Try.pinned (OpenSpec.ofChange fnExactGraphFaultSpec)

/-- ITS FALSE NEIGHBOUR: 'it returns false'. Refute it at one input. -/
def fnExactGraphFaultWrong : ChangeSpec := { name := "fnExactGraphFault", fn := fun _ => fun
  | [d] => { results := [.lit (.bool false)], args := [d] }
  | _ => none }
def FnExactGraphFaultWrongFalsely : Prop := fnExactGraphFaultRow.holds Try.pinned (OpenSpec.ofChange fnExactGraphFaultWrong)

/- THE SECOND FORM. 'bulk': how many values and letters a reading holds, each counted each time it is reached (what is shared counts as often as it is met; a slice's spare places count too). A statement '..UptoSaid' is the law's where the arguments, and the package variables that the reading takes, are together of bulk at most 1048576: NARROWER than '..Said'. Prove '..Said' where nothing that the law and all that it calls make is longer than what came in: it says more and counts as full. Else prove '..UptoSaid'. A law counts once. -/
mutual
def uptoBulk {H : Type} : DataW H → Nat
  | .lit (.string bytes) => bytes.length + 1
  | .lit _ => 1
  | .nil => 1
  | .ptr d => uptoBulk d + 1
  | .slice elems spare => uptoBulkAll elems + uptoBulkAll spare + 1
  | .agg parts => uptoBulkAll parts + 1
  | .iface _ d => uptoBulk d + 1
  | .map entries => uptoBulkEntries entries + 1
  | .held _ => 1
def uptoBulkAll {H : Type} : List (DataW H) → Nat
  | [] => 0
  | d :: r => uptoBulk d + uptoBulkAll r
def uptoBulkEntries {H : Type} : List (Lit × DataW H) → Nat
  | [] => 0
  | x :: r => uptoBulkEntry x + uptoBulkEntries r
def uptoBulkEntry {H : Type} : Lit × DataW H → Nat
  | (.string bytes, d) => bytes.length + uptoBulk d + 1
  | (_, d) => uptoBulk d + 1
 end
def uptoSmall : (H : Type) → List (DataW H) → Bool := fun _ ds => decide (uptoBulkAll ds ≤ 1048576)
def OpenSpec.upto (s : _root_.Go.ChangeSpec) : _root_.Go.OpenSpec := { _root_.Go.OpenSpec.ofChange s with cond := some uptoSmall }

/-- 'laws.FnExactConstants', WHERE WHAT IT READS IS OF BULK AT MOST 1048576: true; the input reads as it did. -/
def fnExactConstantsUptoRow : OpenClaim := { program := "ytjlcajhlggoleaa", sum := "3b8b7bd1e616bf4513c7fd86094892dfaaf7540606664de40d50d801f7d92cc5", func := "loop.example/g00343/laws.FnExactConstants", spec := "fnExactConstants", apart := false, narrowed := true }
def FnExactConstantsUptoSaid : Prop := fnExactConstantsUptoRow.holds Try.pinned (OpenSpec.upto fnExactConstantsSpec)

/-- 'laws.FnExactIsSpace', WHERE WHAT IT READS IS OF BULK AT MOST 1048576: true; the input reads as it did. -/
def fnExactIsSpaceUptoRow : OpenClaim := { program := "ytjlcajhlggoleaa", sum := "3b8b7bd1e616bf4513c7fd86094892dfaaf7540606664de40d50d801f7d92cc5", func := "loop.example/g00343/laws.FnExactIsSpace", spec := "fnExactIsSpace", unfollowed := true, recurses := true, apart := false, narrowed := true }
def FnExactIsSpaceUptoSaid : Prop := fnExactIsSpaceUptoRow.holds Try.pinned (OpenSpec.upto fnExactIsSpaceSpec)

/-- 'laws.FnExactNameFault', WHERE WHAT IT READS IS OF BULK AT MOST 1048576: true; the input reads as it did. -/
def fnExactNameFaultUptoRow : OpenClaim := { program := "ytjlcajhlggoleaa", sum := "3b8b7bd1e616bf4513c7fd86094892dfaaf7540606664de40d50d801f7d92cc5", func := "loop.example/g00343/laws.FnExactNameFault", spec := "fnExactNameFault", unfollowed := true, recurses := true, apart := false, narrowed := true }
def FnExactNameFaultUptoSaid : Prop := fnExactNameFaultUptoRow.holds Try.pinned (OpenSpec.upto fnExactNameFaultSpec)

/-- 'laws.FnExactVarsFault', WHERE WHAT IT READS IS OF BULK AT MOST 1048576: true; the input reads as it did. -/
def fnExactVarsFaultUptoRow : OpenClaim := { program := "ytjlcajhlggoleaa", sum := "3b8b7bd1e616bf4513c7fd86094892dfaaf7540606664de40d50d801f7d92cc5", func := "loop.example/g00343/laws.FnExactVarsFault", spec := "fnExactVarsFault", unfollowed := true, recurses := true, apart := false, narrowed := true }
def FnExactVarsFaultUptoSaid : Prop := fnExactVarsFaultUptoRow.holds Try.pinned (OpenSpec.upto fnExactVarsFaultSpec)

/-- 'laws.FnExactExprFault', WHERE WHAT IT READS IS OF BULK AT MOST 1048576: true; the input reads as it did. -/
def fnExactExprFaultUptoRow : OpenClaim := { program := "ytjlcajhlggoleaa", sum := "3b8b7bd1e616bf4513c7fd86094892dfaaf7540606664de40d50d801f7d92cc5", func := "loop.example/g00343/laws.FnExactExprFault", spec := "fnExactExprFault", recurses := true, apart := false, narrowed := true }
def FnExactExprFaultUptoSaid : Prop := fnExactExprFaultUptoRow.holds Try.pinned (OpenSpec.upto fnExactExprFaultSpec)

/-- 'laws.FnExactSameTrees', WHERE WHAT IT READS IS OF BULK AT MOST 1048576: true; the input reads as it did. -/
def fnExactSameTreesUptoRow : OpenClaim := { program := "ytjlcajhlggoleaa", sum := "3b8b7bd1e616bf4513c7fd86094892dfaaf7540606664de40d50d801f7d92cc5", func := "loop.example/g00343/laws.FnExactSameTrees", spec := "fnExactSameTrees", unfollowed := true, recurses := true, apart := false, narrowed := true }
def FnExactSameTreesUptoSaid : Prop := fnExactSameTreesUptoRow.holds Try.pinned (OpenSpec.upto fnExactSameTreesSpec)

/-- 'laws.FnExactSameProcs', WHERE WHAT IT READS IS OF BULK AT MOST 1048576: true; the input reads as it did. -/
def fnExactSameProcsUptoRow : OpenClaim := { program := "ytjlcajhlggoleaa", sum := "3b8b7bd1e616bf4513c7fd86094892dfaaf7540606664de40d50d801f7d92cc5", func := "loop.example/g00343/laws.FnExactSameProcs", spec := "fnExactSameProcs", unfollowed := true, recurses := true, apart := false, narrowed := true }
def FnExactSameProcsUptoSaid : Prop := fnExactSameProcsUptoRow.holds Try.pinned (OpenSpec.upto fnExactSameProcsSpec)

/-- 'laws.FnExactTypeOf', WHERE WHAT IT READS IS OF BULK AT MOST 1048576: true; the input reads as it did. -/
def fnExactTypeOfUptoRow : OpenClaim := { program := "ytjlcajhlggoleaa", sum := "3b8b7bd1e616bf4513c7fd86094892dfaaf7540606664de40d50d801f7d92cc5", func := "loop.example/g00343/laws.FnExactTypeOf", spec := "fnExactTypeOf", recurses := true, apart := false, narrowed := true }
def FnExactTypeOfUptoSaid : Prop := fnExactTypeOfUptoRow.holds Try.pinned (OpenSpec.upto fnExactTypeOfSpec)

/-- 'laws.FnExactSameGraphs', WHERE WHAT IT READS IS OF BULK AT MOST 1048576: true; the input reads as it did. -/
def fnExactSameGraphsUptoRow : OpenClaim := { program := "ytjlcajhlggoleaa", sum := "3b8b7bd1e616bf4513c7fd86094892dfaaf7540606664de40d50d801f7d92cc5", func := "loop.example/g00343/laws.FnExactSameGraphs", spec := "fnExactSameGraphs", unfollowed := true, recurses := true, apart := false, narrowed := true }
def FnExactSameGraphsUptoSaid : Prop := fnExactSameGraphsUptoRow.holds Try.pinned (OpenSpec.upto fnExactSameGraphsSpec)

/-- 'laws.FnExactTreeFault', WHERE WHAT IT READS IS OF BULK AT MOST 1048576: true; the input reads as it did. -/
def fnExactTreeFaultUptoRow : OpenClaim := { program := "ytjlcajhlggoleaa", sum := "3b8b7bd1e616bf4513c7fd86094892dfaaf7540606664de40d50d801f7d92cc5", func := "loop.example/g00343/laws.FnExactTreeFault", spec := "fnExactTreeFault", unfollowed := true, recurses := true, apart := false, narrowed := true }
def FnExactTreeFaultUptoSaid : Prop := fnExactTreeFaultUptoRow.holds Try.pinned (OpenSpec.upto fnExactTreeFaultSpec)

/-- 'laws.FnExactGraphFault', WHERE WHAT IT READS IS OF BULK AT MOST 1048576: true; the input reads as it did. -/
def fnExactGraphFaultUptoRow : OpenClaim := { program := "ytjlcajhlggoleaa", sum := "3b8b7bd1e616bf4513c7fd86094892dfaaf7540606664de40d50d801f7d92cc5", func := "loop.example/g00343/laws.FnExactGraphFault", spec := "fnExactGraphFault", unfollowed := true, recurses := true, apart := false, narrowed := true }
def FnExactGraphFaultUptoSaid : Prop := fnExactGraphFaultUptoRow.holds Try.pinned (OpenSpec.upto fnExactGraphFaultSpec)

end Rows
end Go.Proofs.Ytjlcajhlggoleaa
