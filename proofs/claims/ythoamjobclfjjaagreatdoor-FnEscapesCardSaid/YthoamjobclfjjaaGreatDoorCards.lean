/-
  DERIVED. GIVEN WITH THE SEED: THE CARDS: each row of YthoamjobclfjjaaGreatDoorRows.lean that lists a variable, with what it lists TIED to the program's text (the seventh form; the later family's looks); each row that meets fmt, with fmt's text TOLD by the authors' own Lean function (tested against real Go, not proved from fmt's source: count such statements apart). THE CARD IS WHAT COUNTS. Prove the row's statement (the work); the ties are given (YthoamjobclfjjaaGreatDoorTie.lean); close each card by the builder's one call (the guide's Derived/Test/ToyasCard.lean, 'card_holds'). Laid BY PROGRAM, IN A SANDBOX (cutbox-door.mjs). By AI agents, Wed Nov 11 2026. No macro, syntax, notation, axiom, sorry.
-/
import Derived.Test.YthoamjobclfjjaaGreatDoorRows
import GoSem.ClaimSeven
namespace Go.Proofs.YthoamjobclfjjaaGreatDoor
namespace Rows

/-- THE TIED CARD OF 'laws.FnEscapes'. -/
def fnEscapesCard : Claim7 := { stood := { row := fnEscapesRow, standIns := [], harness := (true, "20bb76e1d2a8a0788a5797972231c2b3d7aa5b7905f75d65129bfaf9d2658677"), looks := true }, kinds := [], alts := [], laidByText := true, laidKinds := [.data, .data, .data, .sentinel, .sentinel], laidTests := true, laidLooks := .later }
def FnEscapesCardSaid : Prop := Claim7.holds Tryz.pinned (.plain (OpenSpec.ofChange fnEscapesSpec)) fnEscapesCard

/-- THE SECOND FORM's CARD OF 'laws.FnEscapes'. -/
def fnEscapesUptoCard : Claim7 := { stood := { row := fnEscapesUptoRow, standIns := [], harness := (true, "20bb76e1d2a8a0788a5797972231c2b3d7aa5b7905f75d65129bfaf9d2658677"), looks := true }, kinds := [], alts := [], laidByText := true, laidKinds := [.data, .data, .data, .sentinel, .sentinel], laidTests := true, laidLooks := .later }
def FnEscapesUptoCardSaid : Prop := Claim7.holds Tryz.pinned (.plain (OpenSpec.upto fnEscapesSpec)) fnEscapesUptoCard
end Rows
end Go.Proofs.YthoamjobclfjjaaGreatDoor
