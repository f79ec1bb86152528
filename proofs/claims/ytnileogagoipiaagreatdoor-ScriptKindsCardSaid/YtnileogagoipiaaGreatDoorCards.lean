/-
  DERIVED. GIVEN WITH THE SEED: THE CARDS: each row of YtnileogagoipiaaGreatDoorRows.lean that lists a variable, with what it lists TIED to the program's text (the seventh form; the later family's looks); each row that meets fmt, with fmt's text TOLD by the authors' own Lean function (tested against real Go, not proved from fmt's source: count such statements apart). THE CARD IS WHAT COUNTS. Prove the row's statement (the work); the ties are given (YtnileogagoipiaaGreatDoorTie.lean); close each card by the builder's one call (the guide's Derived/Test/ToyasCard.lean, 'card_holds'). Laid BY PROGRAM, IN A SANDBOX (cutbox-door.mjs). By AI agents, Wed Nov 11 2026. No macro, syntax, notation, axiom, sorry.
-/
import Derived.Test.YtnileogagoipiaaGreatDoorRows
import GoSem.ClaimSeven
namespace Go.Proofs.YtnileogagoipiaaGreatDoor
namespace Rows

/-- THE TIED CARD OF 'scrimshawlaw22.ScriptAsks'. -/
def scriptAsksCard : Claim7 := { stood := { row := scriptAsksRow, standIns := [], harness := (true, "ae3242076099878fa0cf67a5d8d0997e8725618647875fd09ad0dfdaf276d594"), looks := false }, kinds := [], alts := [], laidByText := true, laidKinds := [.data], laidTests := true, laidLooks := .later }
def ScriptAsksCardSaid : Prop := Claim7.holds Tryz.pinned (.plain (OpenSpec.ofChange scriptAsksSpec)) scriptAsksCard

/-- THE TIED CARD OF 'scrimshawlaw22.ScriptKinds'. -/
def scriptKindsCard : Claim7 := { stood := { row := scriptKindsRow, standIns := [], harness := (true, "ae3242076099878fa0cf67a5d8d0997e8725618647875fd09ad0dfdaf276d594"), looks := false }, kinds := [], alts := [], laidByText := true, laidKinds := [.data], laidTests := true, laidLooks := .later }
def ScriptKindsCardSaid : Prop := Claim7.holds Tryz.pinned (.plain (OpenSpec.ofChange scriptKindsSpec)) scriptKindsCard

/-- THE TIED CARD OF 'scrimshawlaw22.ScriptParts'. -/
def scriptPartsCard : Claim7 := { stood := { row := scriptPartsRow, standIns := [], harness := (true, "ae3242076099878fa0cf67a5d8d0997e8725618647875fd09ad0dfdaf276d594"), looks := false }, kinds := [], alts := [], laidByText := true, laidKinds := [.data], laidTests := true, laidLooks := .later }
def ScriptPartsCardSaid : Prop := Claim7.holds Tryz.pinned (.plain (OpenSpec.ofChange scriptPartsSpec)) scriptPartsCard

/-- THE SECOND FORM's CARD OF 'scrimshawlaw22.ScriptAsks'. -/
def scriptAsksUptoCard : Claim7 := { stood := { row := scriptAsksUptoRow, standIns := [], harness := (true, "ae3242076099878fa0cf67a5d8d0997e8725618647875fd09ad0dfdaf276d594"), looks := false }, kinds := [], alts := [], laidByText := true, laidKinds := [.data], laidTests := true, laidLooks := .later }
def ScriptAsksUptoCardSaid : Prop := Claim7.holds Tryz.pinned (.plain (OpenSpec.upto scriptAsksSpec)) scriptAsksUptoCard

/-- THE SECOND FORM's CARD OF 'scrimshawlaw22.ScriptKinds'. -/
def scriptKindsUptoCard : Claim7 := { stood := { row := scriptKindsUptoRow, standIns := [], harness := (true, "ae3242076099878fa0cf67a5d8d0997e8725618647875fd09ad0dfdaf276d594"), looks := false }, kinds := [], alts := [], laidByText := true, laidKinds := [.data], laidTests := true, laidLooks := .later }
def ScriptKindsUptoCardSaid : Prop := Claim7.holds Tryz.pinned (.plain (OpenSpec.upto scriptKindsSpec)) scriptKindsUptoCard

/-- THE SECOND FORM's CARD OF 'scrimshawlaw22.ScriptParts'. -/
def scriptPartsUptoCard : Claim7 := { stood := { row := scriptPartsUptoRow, standIns := [], harness := (true, "ae3242076099878fa0cf67a5d8d0997e8725618647875fd09ad0dfdaf276d594"), looks := false }, kinds := [], alts := [], laidByText := true, laidKinds := [.data], laidTests := true, laidLooks := .later }
def ScriptPartsUptoCardSaid : Prop := Claim7.holds Tryz.pinned (.plain (OpenSpec.upto scriptPartsSpec)) scriptPartsUptoCard
end Rows
end Go.Proofs.YtnileogagoipiaaGreatDoor
