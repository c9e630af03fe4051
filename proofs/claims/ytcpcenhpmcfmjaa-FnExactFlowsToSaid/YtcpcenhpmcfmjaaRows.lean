/-
  No cell of these rows narrows 'for every input' (looked for: loops, veiled, ifaces, maps, wideKeys, modest, calm, conditions, laid).
  DERIVED. THE GIVEN ROWS OF THIS SEAT. 7 by the template 'for every input the law returns true; each argument reads behind the call as it read before'; 0 by the template 'total and deterministic' (their statements: YtcpcenhpmcfmjaaTotals.lean).
  GIVEN WITH THE SEED: the statements are not yours to turn. If you find one false, say at which input.
  Laid BY PROGRAM, IN A SANDBOX (cutbox-rows.mjs): the forced cells as the released guide's own fill.sh prints them over the translation 5b7c14c8189263d6… (all of the seat's roots in one cut). By AI agents, Wed Nov 11 2026. No macro, syntax, notation, axiom, sorry.
-/
import Derived.Test.YtcpcenhpmcfmjaaChecked
import GoSem.Claim
import GoSem.ClaimJoined
import GoSem.ClaimMapViews
import Derived.JoinedTies
import Derived.KernelRfl
namespace Go.Proofs.Ytcpcenhpmcfmjaa
/- THE CELL 'sum', in the pinned program and in every row, IS THE sha256 OF THE DUMP (.gsa) THAT YtcpcenhpmcfmjaaProg.lean LOADS. Nothing in Lean hashes anything: it is a label: what it is worth is what the hold of that sum in a sandbox is worth. -/
noncomputable def Try.pinned : Pinned := { name := "ytcpcenhpmcfmjaa", sum := "5b7c14c8189263d662abc383f6c915aff728661ad6bc9bcac83bc7c00ea0dc33", checked := Try.checked }
namespace Rows
def none {H : Type} : Left H := { results := [], args := [] }

/-- 'laws.FnExactFlowsFrom': WHATEVER THE INPUT: true; the input reads as it did. -/
def fnExactFlowsFromSpec : ChangeSpec := { name := "fnExactFlowsFrom", fn := fun _ => fun
  | [d1, d2] => { results := [.lit (.bool true)], args := [d1, d2] }
  | _ => none }
def fnExactFlowsFromRow : OpenClaim := { program := "ytcpcenhpmcfmjaa", sum := "5b7c14c8189263d662abc383f6c915aff728661ad6bc9bcac83bc7c00ea0dc33", func := "loop.example/g00343/laws.FnExactFlowsFrom", spec := "fnExactFlowsFrom", unfollowed := true, recurses := true, apart := false }
def FnExactFlowsFromSaid : Prop := fnExactFlowsFromRow.holds Try.pinned (OpenSpec.ofChange fnExactFlowsFromSpec)

/-- ITS FALSE NEIGHBOUR: 'it returns false'. Refute it at one input. -/
def fnExactFlowsFromWrong : ChangeSpec := { name := "fnExactFlowsFrom", fn := fun _ => fun
  | [d1, d2] => { results := [.lit (.bool false)], args := [d1, d2] }
  | _ => none }
def FnExactFlowsFromWrongFalsely : Prop := fnExactFlowsFromRow.holds Try.pinned (OpenSpec.ofChange fnExactFlowsFromWrong)

/-- 'laws.FnExactFlowsTo': WHATEVER THE INPUT: true; the input reads as it did. -/
def fnExactFlowsToSpec : ChangeSpec := { name := "fnExactFlowsTo", fn := fun _ => fun
  | [d1, d2] => { results := [.lit (.bool true)], args := [d1, d2] }
  | _ => none }
def fnExactFlowsToRow : OpenClaim := { program := "ytcpcenhpmcfmjaa", sum := "5b7c14c8189263d662abc383f6c915aff728661ad6bc9bcac83bc7c00ea0dc33", func := "loop.example/g00343/laws.FnExactFlowsTo", spec := "fnExactFlowsTo", unfollowed := true, recurses := true, apart := false }
def FnExactFlowsToSaid : Prop := fnExactFlowsToRow.holds Try.pinned (OpenSpec.ofChange fnExactFlowsToSpec)

/-- ITS FALSE NEIGHBOUR: 'it returns false'. Refute it at one input. -/
def fnExactFlowsToWrong : ChangeSpec := { name := "fnExactFlowsTo", fn := fun _ => fun
  | [d1, d2] => { results := [.lit (.bool false)], args := [d1, d2] }
  | _ => none }
def FnExactFlowsToWrongFalsely : Prop := fnExactFlowsToRow.holds Try.pinned (OpenSpec.ofChange fnExactFlowsToWrong)

/-- 'laws.FnExactProcFault': WHATEVER THE INPUT: true; the input reads as it did. -/
def fnExactProcFaultSpec : ChangeSpec := { name := "fnExactProcFault", fn := fun _ => fun
  | [d] => { results := [.lit (.bool true)], args := [d] }
  | _ => none }
def fnExactProcFaultRow : OpenClaim := { program := "ytcpcenhpmcfmjaa", sum := "5b7c14c8189263d662abc383f6c915aff728661ad6bc9bcac83bc7c00ea0dc33", func := "loop.example/g00343/laws.FnExactProcFault", spec := "fnExactProcFault", unfollowed := true, recurses := true, apart := false }
def FnExactProcFaultSaid : Prop := fnExactProcFaultRow.holds Try.pinned (OpenSpec.ofChange fnExactProcFaultSpec)

/-- ITS FALSE NEIGHBOUR: 'it returns false'. Refute it at one input. -/
def fnExactProcFaultWrong : ChangeSpec := { name := "fnExactProcFault", fn := fun _ => fun
  | [d] => { results := [.lit (.bool false)], args := [d] }
  | _ => none }
def FnExactProcFaultWrongFalsely : Prop := fnExactProcFaultRow.holds Try.pinned (OpenSpec.ofChange fnExactProcFaultWrong)

/-- 'laws.FnExactDeepOf': WHATEVER THE INPUT: true; the input reads as it did. -/
def fnExactDeepOfSpec : ChangeSpec := { name := "fnExactDeepOf", fn := fun _ => fun
  | [d] => { results := [.lit (.bool true)], args := [d] }
  | _ => none }
def fnExactDeepOfRow : OpenClaim := { program := "ytcpcenhpmcfmjaa", sum := "5b7c14c8189263d662abc383f6c915aff728661ad6bc9bcac83bc7c00ea0dc33", func := "loop.example/g00343/laws.FnExactDeepOf", spec := "fnExactDeepOf", unfollowed := true, recurses := true, apart := false }
def FnExactDeepOfSaid : Prop := fnExactDeepOfRow.holds Try.pinned (OpenSpec.ofChange fnExactDeepOfSpec)

/-- ITS FALSE NEIGHBOUR: 'it returns false'. Refute it at one input. -/
def fnExactDeepOfWrong : ChangeSpec := { name := "fnExactDeepOf", fn := fun _ => fun
  | [d] => { results := [.lit (.bool false)], args := [d] }
  | _ => none }
def FnExactDeepOfWrongFalsely : Prop := fnExactDeepOfRow.holds Try.pinned (OpenSpec.ofChange fnExactDeepOfWrong)

/-- 'laws.FnExactIsPlain': WHATEVER THE INPUT: true; the input reads as it did. -/
def fnExactIsPlainSpec : ChangeSpec := { name := "fnExactIsPlain", fn := fun _ => fun
  | [d] => { results := [.lit (.bool true)], args := [d] }
  | _ => none }
def fnExactIsPlainRow : OpenClaim := { program := "ytcpcenhpmcfmjaa", sum := "5b7c14c8189263d662abc383f6c915aff728661ad6bc9bcac83bc7c00ea0dc33", func := "loop.example/g00343/laws.FnExactIsPlain", spec := "fnExactIsPlain", unfollowed := true, recurses := true, apart := false }
def FnExactIsPlainSaid : Prop := fnExactIsPlainRow.holds Try.pinned (OpenSpec.ofChange fnExactIsPlainSpec)

/-- ITS FALSE NEIGHBOUR: 'it returns false'. Refute it at one input. -/
def fnExactIsPlainWrong : ChangeSpec := { name := "fnExactIsPlain", fn := fun _ => fun
  | [d] => { results := [.lit (.bool false)], args := [d] }
  | _ => none }
def FnExactIsPlainWrongFalsely : Prop := fnExactIsPlainRow.holds Try.pinned (OpenSpec.ofChange fnExactIsPlainWrong)

/-- 'laws.FnExactLeavesOf': WHATEVER THE INPUT: true; the input reads as it did. -/
def fnExactLeavesOfSpec : ChangeSpec := { name := "fnExactLeavesOf", fn := fun _ => fun
  | [d] => { results := [.lit (.bool true)], args := [d] }
  | _ => none }
def fnExactLeavesOfRow : OpenClaim := { program := "ytcpcenhpmcfmjaa", sum := "5b7c14c8189263d662abc383f6c915aff728661ad6bc9bcac83bc7c00ea0dc33", func := "loop.example/g00343/laws.FnExactLeavesOf", spec := "fnExactLeavesOf", unfollowed := true, recurses := true, apart := false }
def FnExactLeavesOfSaid : Prop := fnExactLeavesOfRow.holds Try.pinned (OpenSpec.ofChange fnExactLeavesOfSpec)

/-- ITS FALSE NEIGHBOUR: 'it returns false'. Refute it at one input. -/
def fnExactLeavesOfWrong : ChangeSpec := { name := "fnExactLeavesOf", fn := fun _ => fun
  | [d] => { results := [.lit (.bool false)], args := [d] }
  | _ => none }
def FnExactLeavesOfWrongFalsely : Prop := fnExactLeavesOfRow.holds Try.pinned (OpenSpec.ofChange fnExactLeavesOfWrong)

/-- 'laws.FnExactStepsUnder': WHATEVER THE INPUT: true; the input reads as it did. -/
def fnExactStepsUnderSpec : ChangeSpec := { name := "fnExactStepsUnder", fn := fun _ => fun
  | [d1, d2] => { results := [.lit (.bool true)], args := [d1, d2] }
  | _ => none }
def fnExactStepsUnderRow : OpenClaim := { program := "ytcpcenhpmcfmjaa", sum := "5b7c14c8189263d662abc383f6c915aff728661ad6bc9bcac83bc7c00ea0dc33", func := "loop.example/g00343/laws.FnExactStepsUnder", spec := "fnExactStepsUnder", unfollowed := true, recurses := true, apart := false }
def FnExactStepsUnderSaid : Prop := fnExactStepsUnderRow.holds Try.pinned (OpenSpec.ofChange fnExactStepsUnderSpec)

/-- ITS FALSE NEIGHBOUR: 'it returns false'. Refute it at one input. -/
def fnExactStepsUnderWrong : ChangeSpec := { name := "fnExactStepsUnder", fn := fun _ => fun
  | [d1, d2] => { results := [.lit (.bool false)], args := [d1, d2] }
  | _ => none }
def FnExactStepsUnderWrongFalsely : Prop := fnExactStepsUnderRow.holds Try.pinned (OpenSpec.ofChange fnExactStepsUnderWrong)

/- THE SECOND FORM. 'bulk': how many values and letters a reading holds, each counted each time it is reached (what is shared counts as often as it is met; a slice's spare places count too). A statement '..UptoSaid' is the law's where the arguments, and the package variables that the reading takes, are together of bulk at most 1048576: NARROWER than '..Said'. Prove '..Said' where nothing that the law and all that it calls make is longer than what came in: it says more and counts as full. Else prove '..UptoSaid'. A law counts once. -/
mutual
def uptoBulk {H : Type} : DataW H → Nat
  | .lit (.string bytes) => bytes.length + 1
  | .lit _ => 1
  | .nil => 1
  | .ptr d => uptoBulk d + 1
  | .slice elems spare => uptoBulkAll elems + uptoBulkAll spare + 1
  | .agg parts => uptoBulkAll parts + 1
  | .iface _ d => uptoBulk d + 1
  | .map entries => uptoBulkEntries entries + 1
  | .held _ => 1
def uptoBulkAll {H : Type} : List (DataW H) → Nat
  | [] => 0
  | d :: r => uptoBulk d + uptoBulkAll r
def uptoBulkEntries {H : Type} : List (Lit × DataW H) → Nat
  | [] => 0
  | x :: r => uptoBulkEntry x + uptoBulkEntries r
def uptoBulkEntry {H : Type} : Lit × DataW H → Nat
  | (.string bytes, d) => bytes.length + uptoBulk d + 1
  | (_, d) => uptoBulk d + 1
 end
def uptoSmall : (H : Type) → List (DataW H) → Bool := fun _ ds => decide (uptoBulkAll ds ≤ 1048576)
def OpenSpec.upto (s : _root_.Go.ChangeSpec) : _root_.Go.OpenSpec := { _root_.Go.OpenSpec.ofChange s with cond := some uptoSmall }

/-- 'laws.FnExactFlowsFrom', WHERE WHAT IT READS IS OF BULK AT MOST 1048576: true; the input reads as it did. -/
def fnExactFlowsFromUptoRow : OpenClaim := { program := "ytcpcenhpmcfmjaa", sum := "5b7c14c8189263d662abc383f6c915aff728661ad6bc9bcac83bc7c00ea0dc33", func := "loop.example/g00343/laws.FnExactFlowsFrom", spec := "fnExactFlowsFrom", unfollowed := true, recurses := true, apart := false, narrowed := true }
def FnExactFlowsFromUptoSaid : Prop := fnExactFlowsFromUptoRow.holds Try.pinned (OpenSpec.upto fnExactFlowsFromSpec)

/-- 'laws.FnExactFlowsTo', WHERE WHAT IT READS IS OF BULK AT MOST 1048576: true; the input reads as it did. -/
def fnExactFlowsToUptoRow : OpenClaim := { program := "ytcpcenhpmcfmjaa", sum := "5b7c14c8189263d662abc383f6c915aff728661ad6bc9bcac83bc7c00ea0dc33", func := "loop.example/g00343/laws.FnExactFlowsTo", spec := "fnExactFlowsTo", unfollowed := true, recurses := true, apart := false, narrowed := true }
def FnExactFlowsToUptoSaid : Prop := fnExactFlowsToUptoRow.holds Try.pinned (OpenSpec.upto fnExactFlowsToSpec)

/-- 'laws.FnExactProcFault', WHERE WHAT IT READS IS OF BULK AT MOST 1048576: true; the input reads as it did. -/
def fnExactProcFaultUptoRow : OpenClaim := { program := "ytcpcenhpmcfmjaa", sum := "5b7c14c8189263d662abc383f6c915aff728661ad6bc9bcac83bc7c00ea0dc33", func := "loop.example/g00343/laws.FnExactProcFault", spec := "fnExactProcFault", unfollowed := true, recurses := true, apart := false, narrowed := true }
def FnExactProcFaultUptoSaid : Prop := fnExactProcFaultUptoRow.holds Try.pinned (OpenSpec.upto fnExactProcFaultSpec)

/-- 'laws.FnExactDeepOf', WHERE WHAT IT READS IS OF BULK AT MOST 1048576: true; the input reads as it did. -/
def fnExactDeepOfUptoRow : OpenClaim := { program := "ytcpcenhpmcfmjaa", sum := "5b7c14c8189263d662abc383f6c915aff728661ad6bc9bcac83bc7c00ea0dc33", func := "loop.example/g00343/laws.FnExactDeepOf", spec := "fnExactDeepOf", unfollowed := true, recurses := true, apart := false, narrowed := true }
def FnExactDeepOfUptoSaid : Prop := fnExactDeepOfUptoRow.holds Try.pinned (OpenSpec.upto fnExactDeepOfSpec)

/-- 'laws.FnExactIsPlain', WHERE WHAT IT READS IS OF BULK AT MOST 1048576: true; the input reads as it did. -/
def fnExactIsPlainUptoRow : OpenClaim := { program := "ytcpcenhpmcfmjaa", sum := "5b7c14c8189263d662abc383f6c915aff728661ad6bc9bcac83bc7c00ea0dc33", func := "loop.example/g00343/laws.FnExactIsPlain", spec := "fnExactIsPlain", unfollowed := true, recurses := true, apart := false, narrowed := true }
def FnExactIsPlainUptoSaid : Prop := fnExactIsPlainUptoRow.holds Try.pinned (OpenSpec.upto fnExactIsPlainSpec)

/-- 'laws.FnExactLeavesOf', WHERE WHAT IT READS IS OF BULK AT MOST 1048576: true; the input reads as it did. -/
def fnExactLeavesOfUptoRow : OpenClaim := { program := "ytcpcenhpmcfmjaa", sum := "5b7c14c8189263d662abc383f6c915aff728661ad6bc9bcac83bc7c00ea0dc33", func := "loop.example/g00343/laws.FnExactLeavesOf", spec := "fnExactLeavesOf", unfollowed := true, recurses := true, apart := false, narrowed := true }
def FnExactLeavesOfUptoSaid : Prop := fnExactLeavesOfUptoRow.holds Try.pinned (OpenSpec.upto fnExactLeavesOfSpec)

/-- 'laws.FnExactStepsUnder', WHERE WHAT IT READS IS OF BULK AT MOST 1048576: true; the input reads as it did. -/
def fnExactStepsUnderUptoRow : OpenClaim := { program := "ytcpcenhpmcfmjaa", sum := "5b7c14c8189263d662abc383f6c915aff728661ad6bc9bcac83bc7c00ea0dc33", func := "loop.example/g00343/laws.FnExactStepsUnder", spec := "fnExactStepsUnder", unfollowed := true, recurses := true, apart := false, narrowed := true }
def FnExactStepsUnderUptoSaid : Prop := fnExactStepsUnderUptoRow.holds Try.pinned (OpenSpec.upto fnExactStepsUnderSpec)

end Rows
end Go.Proofs.Ytcpcenhpmcfmjaa
