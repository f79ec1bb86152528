/-
  DERIVED. GIVEN WITH THE SEED: THE CARDS: each row of YtcoooelofcejbaaGreatDoorRows.lean that lists a variable, with what it lists TIED to the program's text (the seventh form; the later family's looks); each row that meets fmt, with fmt's text TOLD by the authors' own Lean function (tested against real Go, not proved from fmt's source: count such statements apart). THE CARD IS WHAT COUNTS. Prove the row's statement (the work); the ties are given (YtcoooelofcejbaaGreatDoorTie.lean); close each card by the builder's one call (the guide's Derived/Test/ToyasCard.lean, 'card_holds'). Laid BY PROGRAM, IN A SANDBOX (cutbox-door.mjs). By AI agents, Wed Nov 11 2026. No macro, syntax, notation, axiom, sorry.
-/
import Derived.Test.YtcoooelofcejbaaGreatDoorRows
import GoSem.ClaimSeven
namespace Go.Proofs.YtcoooelofcejbaaGreatDoor
namespace Rows

/-- THE TIED CARD OF 'scrimshawlaw24.DeskPlays'. -/
def deskPlaysCard : Claim7 := { stood := { row := deskPlaysRow, standIns := [], harness := (true, "1008bd1936566d3551c572ebe830475c8c6078924f364d8e61b87fa837126100"), looks := true }, kinds := [], alts := [], laidByText := true, laidKinds := [.data, .data, .data, .data, .sentinel, .sentinel, .pinned], laidTests := true, laidLooks := .later }
def DeskPlaysCardSaid : Prop := Claim7.holds Tryz.pinned (.plain (OpenSpec.ofChange deskPlaysSpec)) deskPlaysCard

/-- THE SECOND FORM's CARD OF 'scrimshawlaw24.DeskPlays'. -/
def deskPlaysUptoCard : Claim7 := { stood := { row := deskPlaysUptoRow, standIns := [], harness := (true, "1008bd1936566d3551c572ebe830475c8c6078924f364d8e61b87fa837126100"), looks := true }, kinds := [], alts := [], laidByText := true, laidKinds := [.data, .data, .data, .data, .sentinel, .sentinel, .pinned], laidTests := true, laidLooks := .later }
def DeskPlaysUptoCardSaid : Prop := Claim7.holds Tryz.pinned (.plain (OpenSpec.upto deskPlaysSpec)) deskPlaysUptoCard
end Rows
end Go.Proofs.YtcoooelofcejbaaGreatDoor
