/-
  DERIVED. GIVEN WITH THE SEED: THE CARDS: each row of YthkkcelfgcholaaGreatDoorRows.lean that lists a variable, with what it lists TIED to the program's text (the seventh form; the later family's looks); each row that meets fmt, with fmt's text TOLD by the authors' own Lean function (tested against real Go, not proved from fmt's source: count such statements apart). THE CARD IS WHAT COUNTS. Prove the row's statement (the work); the ties are given (YthkkcelfgcholaaGreatDoorTie.lean); close each card by the builder's one call (the guide's Derived/Test/ToyasCard.lean, 'card_holds'). Laid BY PROGRAM, IN A SANDBOX (cutbox-door.mjs). By AI agents, Wed Nov 11 2026. No macro, syntax, notation, axiom, sorry.
-/
import Derived.Test.YthkkcelfgcholaaGreatDoorRows
import GoSem.ClaimSeven
namespace Go.Proofs.YthkkcelfgcholaaGreatDoor
namespace Rows

/-- THE TIED CARD OF 'scrimshawlaw15.TakeAsks'. -/
def takeAsksCard : Claim7 := { stood := { row := takeAsksRow, standIns := [], harness := (true, "3c9baac9d4166d93a32cf8b83bfece8cd8a550d0075f6f5080725ba3f888f103"), looks := false }, kinds := [], alts := [], laidByText := true, laidKinds := [.data], laidTests := true, laidLooks := .later }
def TakeAsksCardSaid : Prop := Claim7.holds Tryz.pinned (.plain (OpenSpec.ofChange takeAsksSpec)) takeAsksCard

/-- THE TIED CARD OF 'scrimshawlaw13.FindEdits'. -/
def findEditsCard : Claim7 := { stood := { row := findEditsRow, standIns := [], harness := (true, "3c9baac9d4166d93a32cf8b83bfece8cd8a550d0075f6f5080725ba3f888f103"), looks := false }, kinds := [], alts := [], laidByText := true, laidKinds := [.data], laidTests := true, laidLooks := .later }
def FindEditsCardSaid : Prop := Claim7.holds Tryz.pinned (.plain (OpenSpec.ofChange findEditsSpec)) findEditsCard

/-- THE SECOND FORM's CARD OF 'scrimshawlaw15.TakeAsks'. -/
def takeAsksUptoCard : Claim7 := { stood := { row := takeAsksUptoRow, standIns := [], harness := (true, "3c9baac9d4166d93a32cf8b83bfece8cd8a550d0075f6f5080725ba3f888f103"), looks := false }, kinds := [], alts := [], laidByText := true, laidKinds := [.data], laidTests := true, laidLooks := .later }
def TakeAsksUptoCardSaid : Prop := Claim7.holds Tryz.pinned (.plain (OpenSpec.upto takeAsksSpec)) takeAsksUptoCard

/-- THE SECOND FORM's CARD OF 'scrimshawlaw13.FindEdits'. -/
def findEditsUptoCard : Claim7 := { stood := { row := findEditsUptoRow, standIns := [], harness := (true, "3c9baac9d4166d93a32cf8b83bfece8cd8a550d0075f6f5080725ba3f888f103"), looks := false }, kinds := [], alts := [], laidByText := true, laidKinds := [.data], laidTests := true, laidLooks := .later }
def FindEditsUptoCardSaid : Prop := Claim7.holds Tryz.pinned (.plain (OpenSpec.upto findEditsSpec)) findEditsUptoCard
end Rows
end Go.Proofs.YthkkcelfgcholaaGreatDoor
