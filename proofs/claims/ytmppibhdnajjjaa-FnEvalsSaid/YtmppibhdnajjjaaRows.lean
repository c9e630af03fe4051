/-
  No cell of these rows narrows 'for every input' (looked for: loops, veiled, ifaces, maps, wideKeys, modest, calm, conditions, laid).
  DERIVED. THE GIVEN ROWS OF THIS SEAT. 4 by the template 'for every input the law returns true; each argument reads behind the call as it read before'; 0 by the template 'total and deterministic' (their statements: YtmppibhdnajjjaaTotals.lean).
  GIVEN WITH THE SEED: the statements are not yours to turn. If you find one false, say at which input.
  Laid BY PROGRAM, IN A SANDBOX (cutbox-rows.mjs): the forced cells as the released guide's own fill.sh prints them over the translation 09d97553f17067c2… (all of the seat's roots in one cut). By AI agents, Wed Nov 11 2026. No macro, syntax, notation, axiom, sorry.
-/
import Derived.Test.YtmppibhdnajjjaaChecked
import GoSem.Claim
import GoSem.ClaimJoined
import GoSem.ClaimMapViews
import Derived.JoinedTies
import Derived.KernelRfl
namespace Go.Proofs.Ytmppibhdnajjjaa
/- THE CELL 'sum', in the pinned program and in every row, IS THE sha256 OF THE DUMP (.gsa) THAT YtmppibhdnajjjaaProg.lean LOADS. Nothing in Lean hashes anything: it is a label: what it is worth is what the hold of that sum in a sandbox is worth. -/
noncomputable def Try.pinned : Pinned := { name := "ytmppibhdnajjjaa", sum := "09d97553f17067c2b0dc0e2e6621a767e86341db86b8b2563a085334b92cda5e", checked := Try.checked }
namespace Rows
def none {H : Type} : Left H := { results := [], args := [] }

/-- 'laws.FnExactCutMarks': WHATEVER THE INPUT: true; the input reads as it did. -/
def fnExactCutMarksSpec : ChangeSpec := { name := "fnExactCutMarks", fn := fun _ => fun
  | [d] => { results := [.lit (.bool true)], args := [d] }
  | _ => none }
def fnExactCutMarksRow : OpenClaim := { program := "ytmppibhdnajjjaa", sum := "09d97553f17067c2b0dc0e2e6621a767e86341db86b8b2563a085334b92cda5e", func := "loop.example/g00343/laws.FnExactCutMarks", spec := "fnExactCutMarks", inPlace := ["internal/bytealg.IndexByteString", "internal/bytealg.IndexString"], named := ["internal/bytealg.MaxLen"], apart := false }
def FnExactCutMarksSaid : Prop := fnExactCutMarksRow.holds Try.pinned (OpenSpec.ofChange fnExactCutMarksSpec)

/-- ITS FALSE NEIGHBOUR: 'it returns false'. Refute it at one input. -/
def fnExactCutMarksWrong : ChangeSpec := { name := "fnExactCutMarks", fn := fun _ => fun
  | [d] => { results := [.lit (.bool false)], args := [d] }
  | _ => none }
def FnExactCutMarksWrongFalsely : Prop := fnExactCutMarksRow.holds Try.pinned (OpenSpec.ofChange fnExactCutMarksWrong)

/-- 'laws.FnMarks': WHATEVER THE INPUT: true; the input reads as it did. -/
def fnMarksSpec : ChangeSpec := { name := "fnMarks", fn := fun _ => fun
  | [d] => { results := [.lit (.bool true)], args := [d] }
  | _ => none }
def fnMarksRow : OpenClaim := { program := "ytmppibhdnajjjaa", sum := "09d97553f17067c2b0dc0e2e6621a767e86341db86b8b2563a085334b92cda5e", func := "loop.example/g00343/laws.FnMarks", spec := "fnMarks", inPlace := ["internal/bytealg.IndexByteString", "internal/bytealg.IndexString"], unfollowed := true, recurses := true, named := ["internal/bytealg.MaxLen"], apart := false }
def FnMarksSaid : Prop := fnMarksRow.holds Try.pinned (OpenSpec.ofChange fnMarksSpec)

/-- ITS FALSE NEIGHBOUR: 'it returns false'. Refute it at one input. -/
def fnMarksWrong : ChangeSpec := { name := "fnMarks", fn := fun _ => fun
  | [d] => { results := [.lit (.bool false)], args := [d] }
  | _ => none }
def FnMarksWrongFalsely : Prop := fnMarksRow.holds Try.pinned (OpenSpec.ofChange fnMarksWrong)

/-- 'laws.FnExactVarsIn': WHATEVER THE INPUT: true; the input reads as it did. -/
def fnExactVarsInSpec : ChangeSpec := { name := "fnExactVarsIn", fn := fun _ => fun
  | [d] => { results := [.lit (.bool true)], args := [d] }
  | _ => none }
def fnExactVarsInRow : OpenClaim := { program := "ytmppibhdnajjjaa", sum := "09d97553f17067c2b0dc0e2e6621a767e86341db86b8b2563a085334b92cda5e", func := "loop.example/g00343/laws.FnExactVarsIn", spec := "fnExactVarsIn", recurses := true, apart := false }
def FnExactVarsInSaid : Prop := fnExactVarsInRow.holds Try.pinned (OpenSpec.ofChange fnExactVarsInSpec)

/-- ITS FALSE NEIGHBOUR: 'it returns false'. Refute it at one input. -/
def fnExactVarsInWrong : ChangeSpec := { name := "fnExactVarsIn", fn := fun _ => fun
  | [d] => { results := [.lit (.bool false)], args := [d] }
  | _ => none }
def FnExactVarsInWrongFalsely : Prop := fnExactVarsInRow.holds Try.pinned (OpenSpec.ofChange fnExactVarsInWrong)

/-- 'laws.FnEvals': WHATEVER THE INPUT: true; the input reads as it did. -/
def fnEvalsSpec : ChangeSpec := { name := "fnEvals", fn := fun _ => fun
  | [d] => { results := [.lit (.bool true)], args := [d] }
  | _ => none }
def fnEvalsRow : OpenClaim := { program := "ytmppibhdnajjjaa", sum := "09d97553f17067c2b0dc0e2e6621a767e86341db86b8b2563a085334b92cda5e", func := "loop.example/g00343/laws.FnEvals", spec := "fnEvals", unfollowed := true, recurses := true, apart := false }
def FnEvalsSaid : Prop := fnEvalsRow.holds Try.pinned (OpenSpec.ofChange fnEvalsSpec)

/-- ITS FALSE NEIGHBOUR: 'it returns false'. Refute it at one input. -/
def fnEvalsWrong : ChangeSpec := { name := "fnEvals", fn := fun _ => fun
  | [d] => { results := [.lit (.bool false)], args := [d] }
  | _ => none }
def FnEvalsWrongFalsely : Prop := fnEvalsRow.holds Try.pinned (OpenSpec.ofChange fnEvalsWrong)

/- THE SECOND FORM. 'bulk': how many values and letters a reading holds, each counted each time it is reached (what is shared counts as often as it is met; a slice's spare places count too). A statement '..UptoSaid' is the law's where the arguments, and the package variables that the reading takes, are together of bulk at most 1048576: NARROWER than '..Said'. Prove '..Said' where nothing that the law and all that it calls make is longer than what came in: it says more and counts as full. Else prove '..UptoSaid'. A law counts once. -/
mutual
def uptoBulk {H : Type} : DataW H → Nat
  | .lit (.string bytes) => bytes.length + 1
  | .lit _ => 1
  | .nil => 1
  | .ptr d => uptoBulk d + 1
  | .slice elems spare => uptoBulkAll elems + uptoBulkAll spare + 1
  | .agg parts => uptoBulkAll parts + 1
  | .iface _ d => uptoBulk d + 1
  | .map entries => uptoBulkEntries entries + 1
  | .held _ => 1
def uptoBulkAll {H : Type} : List (DataW H) → Nat
  | [] => 0
  | d :: r => uptoBulk d + uptoBulkAll r
def uptoBulkEntries {H : Type} : List (Lit × DataW H) → Nat
  | [] => 0
  | x :: r => uptoBulkEntry x + uptoBulkEntries r
def uptoBulkEntry {H : Type} : Lit × DataW H → Nat
  | (.string bytes, d) => bytes.length + uptoBulk d + 1
  | (_, d) => uptoBulk d + 1
 end
def uptoSmall : (H : Type) → List (DataW H) → Bool := fun _ ds => decide (uptoBulkAll ds ≤ 1048576)
def OpenSpec.upto (s : _root_.Go.ChangeSpec) : _root_.Go.OpenSpec := { _root_.Go.OpenSpec.ofChange s with cond := some uptoSmall }

/-- 'laws.FnExactCutMarks', WHERE WHAT IT READS IS OF BULK AT MOST 1048576: true; the input reads as it did. -/
def fnExactCutMarksUptoRow : OpenClaim := { program := "ytmppibhdnajjjaa", sum := "09d97553f17067c2b0dc0e2e6621a767e86341db86b8b2563a085334b92cda5e", func := "loop.example/g00343/laws.FnExactCutMarks", spec := "fnExactCutMarks", inPlace := ["internal/bytealg.IndexByteString", "internal/bytealg.IndexString"], named := ["internal/bytealg.MaxLen"], apart := false, narrowed := true }
def FnExactCutMarksUptoSaid : Prop := fnExactCutMarksUptoRow.holds Try.pinned (OpenSpec.upto fnExactCutMarksSpec)

/-- 'laws.FnMarks', WHERE WHAT IT READS IS OF BULK AT MOST 1048576: true; the input reads as it did. -/
def fnMarksUptoRow : OpenClaim := { program := "ytmppibhdnajjjaa", sum := "09d97553f17067c2b0dc0e2e6621a767e86341db86b8b2563a085334b92cda5e", func := "loop.example/g00343/laws.FnMarks", spec := "fnMarks", inPlace := ["internal/bytealg.IndexByteString", "internal/bytealg.IndexString"], unfollowed := true, recurses := true, named := ["internal/bytealg.MaxLen"], apart := false, narrowed := true }
def FnMarksUptoSaid : Prop := fnMarksUptoRow.holds Try.pinned (OpenSpec.upto fnMarksSpec)

/-- 'laws.FnExactVarsIn', WHERE WHAT IT READS IS OF BULK AT MOST 1048576: true; the input reads as it did. -/
def fnExactVarsInUptoRow : OpenClaim := { program := "ytmppibhdnajjjaa", sum := "09d97553f17067c2b0dc0e2e6621a767e86341db86b8b2563a085334b92cda5e", func := "loop.example/g00343/laws.FnExactVarsIn", spec := "fnExactVarsIn", recurses := true, apart := false, narrowed := true }
def FnExactVarsInUptoSaid : Prop := fnExactVarsInUptoRow.holds Try.pinned (OpenSpec.upto fnExactVarsInSpec)

/-- 'laws.FnEvals', WHERE WHAT IT READS IS OF BULK AT MOST 1048576: true; the input reads as it did. -/
def fnEvalsUptoRow : OpenClaim := { program := "ytmppibhdnajjjaa", sum := "09d97553f17067c2b0dc0e2e6621a767e86341db86b8b2563a085334b92cda5e", func := "loop.example/g00343/laws.FnEvals", spec := "fnEvals", unfollowed := true, recurses := true, apart := false, narrowed := true }
def FnEvalsUptoSaid : Prop := fnEvalsUptoRow.holds Try.pinned (OpenSpec.upto fnEvalsSpec)

end Rows
end Go.Proofs.Ytmppibhdnajjjaa
