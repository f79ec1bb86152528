/-
  DERIVED. GIVEN WITH THE SEED: THE CARDS: each row of YtngmnkekhlclpaaGreatDoorRows.lean that lists a variable, with what it lists TIED to the program's text (the seventh form; the later family's looks); each row that meets fmt, with fmt's text TOLD by the authors' own Lean function (tested against real Go, not proved from fmt's source: count such statements apart). THE CARD IS WHAT COUNTS. Prove the row's statement (the work); the ties are given (YtngmnkekhlclpaaGreatDoorTie.lean); close each card by the builder's one call (the guide's Derived/Test/ToyasCard.lean, 'card_holds'). Laid BY PROGRAM, IN A SANDBOX (cutbox-door.mjs). By AI agents, Wed Nov 11 2026. No macro, syntax, notation, axiom, sorry.
-/
import Derived.Test.YtngmnkekhlclpaaGreatDoorRows
import GoSem.ClaimSeven
namespace Go.Proofs.YtngmnkekhlclpaaGreatDoor
namespace Rows

/-- THE TIED CARD OF 'scrimshawlaw19.SnapSame'. -/
def snapSameCard : Claim7 := { stood := { row := snapSameRow, standIns := [], harness := (true, "319b06ddb88a6146ac2d6156d8187b82e896c7ddc6b6bb48e7db4d524cd0444c"), looks := false }, kinds := [], alts := [], laidByText := true, laidKinds := [.data], laidTests := true, laidLooks := .later }
def SnapSameCardSaid : Prop := Claim7.holds Tryz.pinned (.plain (OpenSpec.ofChange snapSameSpec)) snapSameCard

/-- THE TIED CARD OF 'scrimshawlaw19.SnapAsks'. -/
def snapAsksCard : Claim7 := { stood := { row := snapAsksRow, standIns := [], harness := (true, "319b06ddb88a6146ac2d6156d8187b82e896c7ddc6b6bb48e7db4d524cd0444c"), looks := false }, kinds := [], alts := [], laidByText := true, laidKinds := [.data], laidTests := true, laidLooks := .later }
def SnapAsksCardSaid : Prop := Claim7.holds Tryz.pinned (.plain (OpenSpec.ofChange snapAsksSpec)) snapAsksCard

/-- THE TIED CARD OF 'scrimshawlaw19.SnapBursts'. -/
def snapBurstsCard : Claim7 := { stood := { row := snapBurstsRow, standIns := [], harness := (true, "319b06ddb88a6146ac2d6156d8187b82e896c7ddc6b6bb48e7db4d524cd0444c"), looks := false }, kinds := [], alts := [], laidByText := true, laidKinds := [.data], laidTests := true, laidLooks := .later }
def SnapBurstsCardSaid : Prop := Claim7.holds Tryz.pinned (.plain (OpenSpec.ofChange snapBurstsSpec)) snapBurstsCard

/-- THE TIED CARD OF 'scrimshawlaw19.SnapBack'. -/
def snapBackCard : Claim7 := { stood := { row := snapBackRow, standIns := [], harness := (true, "319b06ddb88a6146ac2d6156d8187b82e896c7ddc6b6bb48e7db4d524cd0444c"), looks := false }, kinds := [], alts := [], laidByText := true, laidKinds := [.data], laidTests := true, laidLooks := .later }
def SnapBackCardSaid : Prop := Claim7.holds Tryz.pinned (.plain (OpenSpec.ofChange snapBackSpec)) snapBackCard

/-- THE SECOND FORM's CARD OF 'scrimshawlaw19.SnapSame'. -/
def snapSameUptoCard : Claim7 := { stood := { row := snapSameUptoRow, standIns := [], harness := (true, "319b06ddb88a6146ac2d6156d8187b82e896c7ddc6b6bb48e7db4d524cd0444c"), looks := false }, kinds := [], alts := [], laidByText := true, laidKinds := [.data], laidTests := true, laidLooks := .later }
def SnapSameUptoCardSaid : Prop := Claim7.holds Tryz.pinned (.plain (OpenSpec.upto snapSameSpec)) snapSameUptoCard

/-- THE SECOND FORM's CARD OF 'scrimshawlaw19.SnapAsks'. -/
def snapAsksUptoCard : Claim7 := { stood := { row := snapAsksUptoRow, standIns := [], harness := (true, "319b06ddb88a6146ac2d6156d8187b82e896c7ddc6b6bb48e7db4d524cd0444c"), looks := false }, kinds := [], alts := [], laidByText := true, laidKinds := [.data], laidTests := true, laidLooks := .later }
def SnapAsksUptoCardSaid : Prop := Claim7.holds Tryz.pinned (.plain (OpenSpec.upto snapAsksSpec)) snapAsksUptoCard

/-- THE SECOND FORM's CARD OF 'scrimshawlaw19.SnapBursts'. -/
def snapBurstsUptoCard : Claim7 := { stood := { row := snapBurstsUptoRow, standIns := [], harness := (true, "319b06ddb88a6146ac2d6156d8187b82e896c7ddc6b6bb48e7db4d524cd0444c"), looks := false }, kinds := [], alts := [], laidByText := true, laidKinds := [.data], laidTests := true, laidLooks := .later }
def SnapBurstsUptoCardSaid : Prop := Claim7.holds Tryz.pinned (.plain (OpenSpec.upto snapBurstsSpec)) snapBurstsUptoCard

/-- THE SECOND FORM's CARD OF 'scrimshawlaw19.SnapBack'. -/
def snapBackUptoCard : Claim7 := { stood := { row := snapBackUptoRow, standIns := [], harness := (true, "319b06ddb88a6146ac2d6156d8187b82e896c7ddc6b6bb48e7db4d524cd0444c"), looks := false }, kinds := [], alts := [], laidByText := true, laidKinds := [.data], laidTests := true, laidLooks := .later }
def SnapBackUptoCardSaid : Prop := Claim7.holds Tryz.pinned (.plain (OpenSpec.upto snapBackSpec)) snapBackUptoCard
end Rows
end Go.Proofs.YtngmnkekhlclpaaGreatDoor
