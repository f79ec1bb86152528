/-
  DERIVED. GIVEN WITH THE SEED: THE CARDS: each row of YtebfpmgjiclpjaaGreatDoorRows.lean that lists a variable, with what it lists TIED to the program's text (the seventh form; the later family's looks); each row that meets fmt, with fmt's text TOLD by the authors' own Lean function (tested against real Go, not proved from fmt's source: count such statements apart). THE CARD IS WHAT COUNTS. Prove the row's statement (the work); the ties are given (YtebfpmgjiclpjaaGreatDoorTie.lean); close each card by the builder's one call (the guide's Derived/Test/ToyasCard.lean, 'card_holds'). Laid BY PROGRAM, IN A SANDBOX (cutbox-door.mjs). By AI agents, Wed Nov 11 2026. No macro, syntax, notation, axiom, sorry.
-/
import Derived.Test.YtebfpmgjiclpjaaGreatDoorRows
import GoSem.ClaimSeven
namespace Go.Proofs.YtebfpmgjiclpjaaGreatDoor
namespace Rows

/-- THE TIED CARD OF 'scrimshawlaw19.SnapMost'. -/
def snapMostCard : Claim7 := { stood := { row := snapMostRow, standIns := [], harness := (true, "1d06f9b6cec9fab072ca01ab03033f22e0fc723c6ab11ae68fb39c92e45a796d"), looks := false }, kinds := [], alts := [], laidByText := true, laidKinds := [.data], laidTests := true, laidLooks := .later }
def SnapMostCardSaid : Prop := Claim7.holds Tryz.pinned (.plain (OpenSpec.ofChange snapMostSpec)) snapMostCard

/-- THE TIED CARD OF 'scrimshawlaw19.SnapLook'. -/
def snapLookCard : Claim7 := { stood := { row := snapLookRow, standIns := [], harness := (true, "1d06f9b6cec9fab072ca01ab03033f22e0fc723c6ab11ae68fb39c92e45a796d"), looks := false }, kinds := [], alts := [], laidByText := true, laidKinds := [.data], laidTests := true, laidLooks := .later }
def SnapLookCardSaid : Prop := Claim7.holds Tryz.pinned (.plain (OpenSpec.ofChange snapLookSpec)) snapLookCard

/-- THE SECOND FORM's CARD OF 'scrimshawlaw19.SnapMost'. -/
def snapMostUptoCard : Claim7 := { stood := { row := snapMostUptoRow, standIns := [], harness := (true, "1d06f9b6cec9fab072ca01ab03033f22e0fc723c6ab11ae68fb39c92e45a796d"), looks := false }, kinds := [], alts := [], laidByText := true, laidKinds := [.data], laidTests := true, laidLooks := .later }
def SnapMostUptoCardSaid : Prop := Claim7.holds Tryz.pinned (.plain (OpenSpec.upto snapMostSpec)) snapMostUptoCard

/-- THE SECOND FORM's CARD OF 'scrimshawlaw19.SnapLook'. -/
def snapLookUptoCard : Claim7 := { stood := { row := snapLookUptoRow, standIns := [], harness := (true, "1d06f9b6cec9fab072ca01ab03033f22e0fc723c6ab11ae68fb39c92e45a796d"), looks := false }, kinds := [], alts := [], laidByText := true, laidKinds := [.data], laidTests := true, laidLooks := .later }
def SnapLookUptoCardSaid : Prop := Claim7.holds Tryz.pinned (.plain (OpenSpec.upto snapLookSpec)) snapLookUptoCard
end Rows
end Go.Proofs.YtebfpmgjiclpjaaGreatDoor
