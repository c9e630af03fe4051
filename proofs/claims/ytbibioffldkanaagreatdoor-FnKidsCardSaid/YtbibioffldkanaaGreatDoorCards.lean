/-
  DERIVED. GIVEN WITH THE SEED: THE CARDS: each row of YtbibioffldkanaaGreatDoorRows.lean that lists a variable, with what it lists TIED to the program's text (the seventh form; the later family's looks); each row that meets fmt, with fmt's text TOLD by the authors' own Lean function (tested against real Go, not proved from fmt's source: count such statements apart). THE CARD IS WHAT COUNTS. Prove the row's statement (the work); the ties are given (YtbibioffldkanaaGreatDoorTie.lean); close each card by the builder's one call (the guide's Derived/Test/ToyasCard.lean, 'card_holds'). Laid BY PROGRAM, IN A SANDBOX (cutbox-door.mjs). By AI agents, Wed Nov 11 2026. No macro, syntax, notation, axiom, sorry.
-/
import Derived.Test.YtbibioffldkanaaGreatDoorRows
import GoSem.ClaimSeven
namespace Go.Proofs.YtbibioffldkanaaGreatDoor
namespace Rows

/-- THE TIED CARD OF 'laws.FnKids'. -/
def fnKidsCard : Claim7 := { stood := { row := fnKidsRow, standIns := [], harness := (true, "40148e0bbbe7b94e5e7599847877953a90d39136df7fc6be672e7fe03bbb1e10"), looks := true }, kinds := [], alts := [], laidByText := true, laidKinds := [.data, .data, .data, .sentinel, .sentinel], laidTests := true, laidLooks := .later }
def FnKidsCardSaid : Prop := Claim7.holds Tryz.pinned (.plain (OpenSpec.ofChange fnKidsSpec)) fnKidsCard

/-- THE SECOND FORM's CARD OF 'laws.FnKids'. -/
def fnKidsUptoCard : Claim7 := { stood := { row := fnKidsUptoRow, standIns := [], harness := (true, "40148e0bbbe7b94e5e7599847877953a90d39136df7fc6be672e7fe03bbb1e10"), looks := true }, kinds := [], alts := [], laidByText := true, laidKinds := [.data, .data, .data, .sentinel, .sentinel], laidTests := true, laidLooks := .later }
def FnKidsUptoCardSaid : Prop := Claim7.holds Tryz.pinned (.plain (OpenSpec.upto fnKidsSpec)) fnKidsUptoCard
end Rows
end Go.Proofs.YtbibioffldkanaaGreatDoor
