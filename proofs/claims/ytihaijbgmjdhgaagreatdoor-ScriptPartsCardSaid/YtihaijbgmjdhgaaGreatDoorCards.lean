/-
  DERIVED. GIVEN WITH THE SEED: THE CARDS: each row of YtihaijbgmjdhgaaGreatDoorRows.lean that lists a variable, with what it lists TIED to the program's text (the seventh form; the later family's looks); each row that meets fmt, with fmt's text TOLD by the authors' own Lean function (tested against real Go, not proved from fmt's source: count such statements apart). THE CARD IS WHAT COUNTS. Prove the row's statement (the work); the ties are given (YtihaijbgmjdhgaaGreatDoorTie.lean); close each card by the builder's one call (the guide's Derived/Test/ToyasCard.lean, 'card_holds'). Laid BY PROGRAM, IN A SANDBOX (cutbox-door.mjs). By AI agents, Wed Nov 11 2026. No macro, syntax, notation, axiom, sorry.
-/
import Derived.Test.YtihaijbgmjdhgaaGreatDoorRows
import GoSem.ClaimSeven
namespace Go.Proofs.YtihaijbgmjdhgaaGreatDoor
namespace Rows

/-- THE TIED CARD OF 'scrimshawlaw22.ScriptRuns'. -/
def scriptRunsCard : Claim7 := { stood := { row := scriptRunsRow, standIns := [], harness := (true, "632e3ae45b16bee709e9349d55930d394c70d56309885983dd6776689c3efc9d"), looks := true }, kinds := [], alts := [], laidByText := true, laidKinds := [.data], laidTests := true, laidLooks := .later }
def ScriptRunsCardSaid : Prop := Claim7.holds Tryz.pinned (.plain (OpenSpec.ofChange scriptRunsSpec)) scriptRunsCard

/-- THE TIED CARD OF 'scrimshawlaw22.ScriptParts'. -/
def scriptPartsCard : Claim7 := { stood := { row := scriptPartsRow, standIns := [], harness := (true, "632e3ae45b16bee709e9349d55930d394c70d56309885983dd6776689c3efc9d"), looks := true }, kinds := [], alts := [], laidByText := true, laidKinds := [.data], laidTests := true, laidLooks := .later }
def ScriptPartsCardSaid : Prop := Claim7.holds Tryz.pinned (.plain (OpenSpec.ofChange scriptPartsSpec)) scriptPartsCard

/-- THE TIED CARD OF 'scrimshawlaw24.DeskLong'. -/
def deskLongCard : Claim7 := { stood := { row := deskLongRow, standIns := [], harness := (true, "632e3ae45b16bee709e9349d55930d394c70d56309885983dd6776689c3efc9d"), looks := true }, kinds := [], alts := [], laidByText := true, laidKinds := [.data, .data, .data, .data, .sentinel, .sentinel, .pinned], laidTests := true, laidLooks := .later }
def DeskLongCardSaid : Prop := Claim7.holds Tryz.pinned (.plain (OpenSpec.ofChange deskLongSpec)) deskLongCard

/-- THE TIED CARD OF 'scrimshawlaw24.DeskWords'. -/
def deskWordsCard : Claim7 := { stood := { row := deskWordsRow, standIns := [], harness := (true, "632e3ae45b16bee709e9349d55930d394c70d56309885983dd6776689c3efc9d"), looks := true }, kinds := [], alts := [], laidByText := true, laidKinds := [.data, .data, .data, .data, .sentinel, .sentinel, .pinned], laidTests := true, laidLooks := .later }
def DeskWordsCardSaid : Prop := Claim7.holds Tryz.pinned (.plain (OpenSpec.ofChange deskWordsSpec)) deskWordsCard

/-- THE TIED CARD OF 'scrimshawlaw24.DeskPlays'. -/
def deskPlaysCard : Claim7 := { stood := { row := deskPlaysRow, standIns := [], harness := (true, "632e3ae45b16bee709e9349d55930d394c70d56309885983dd6776689c3efc9d"), looks := true }, kinds := [], alts := [], laidByText := true, laidKinds := [.data, .data, .data, .data, .sentinel, .sentinel, .pinned], laidTests := true, laidLooks := .later }
def DeskPlaysCardSaid : Prop := Claim7.holds Tryz.pinned (.plain (OpenSpec.ofChange deskPlaysSpec)) deskPlaysCard

/-- THE TIED CARD OF 'scrimshawtop.TopScripts'. -/
def topScriptsCard : Claim7 := { stood := { row := topScriptsRow, standIns := [], harness := (true, "632e3ae45b16bee709e9349d55930d394c70d56309885983dd6776689c3efc9d"), looks := true }, kinds := [], alts := [], laidByText := true, laidKinds := [.data], laidTests := true, laidLooks := .later }
def TopScriptsCardSaid : Prop := Claim7.holds Tryz.pinned (.plain (OpenSpec.ofChange topScriptsSpec)) topScriptsCard

/-- THE SECOND FORM's CARD OF 'scrimshawlaw22.ScriptRuns'. -/
def scriptRunsUptoCard : Claim7 := { stood := { row := scriptRunsUptoRow, standIns := [], harness := (true, "632e3ae45b16bee709e9349d55930d394c70d56309885983dd6776689c3efc9d"), looks := true }, kinds := [], alts := [], laidByText := true, laidKinds := [.data], laidTests := true, laidLooks := .later }
def ScriptRunsUptoCardSaid : Prop := Claim7.holds Tryz.pinned (.plain (OpenSpec.upto scriptRunsSpec)) scriptRunsUptoCard

/-- THE SECOND FORM's CARD OF 'scrimshawlaw22.ScriptParts'. -/
def scriptPartsUptoCard : Claim7 := { stood := { row := scriptPartsUptoRow, standIns := [], harness := (true, "632e3ae45b16bee709e9349d55930d394c70d56309885983dd6776689c3efc9d"), looks := true }, kinds := [], alts := [], laidByText := true, laidKinds := [.data], laidTests := true, laidLooks := .later }
def ScriptPartsUptoCardSaid : Prop := Claim7.holds Tryz.pinned (.plain (OpenSpec.upto scriptPartsSpec)) scriptPartsUptoCard

/-- THE SECOND FORM's CARD OF 'scrimshawlaw24.DeskLong'. -/
def deskLongUptoCard : Claim7 := { stood := { row := deskLongUptoRow, standIns := [], harness := (true, "632e3ae45b16bee709e9349d55930d394c70d56309885983dd6776689c3efc9d"), looks := true }, kinds := [], alts := [], laidByText := true, laidKinds := [.data, .data, .data, .data, .sentinel, .sentinel, .pinned], laidTests := true, laidLooks := .later }
def DeskLongUptoCardSaid : Prop := Claim7.holds Tryz.pinned (.plain (OpenSpec.upto deskLongSpec)) deskLongUptoCard

/-- THE SECOND FORM's CARD OF 'scrimshawlaw24.DeskWords'. -/
def deskWordsUptoCard : Claim7 := { stood := { row := deskWordsUptoRow, standIns := [], harness := (true, "632e3ae45b16bee709e9349d55930d394c70d56309885983dd6776689c3efc9d"), looks := true }, kinds := [], alts := [], laidByText := true, laidKinds := [.data, .data, .data, .data, .sentinel, .sentinel, .pinned], laidTests := true, laidLooks := .later }
def DeskWordsUptoCardSaid : Prop := Claim7.holds Tryz.pinned (.plain (OpenSpec.upto deskWordsSpec)) deskWordsUptoCard

/-- THE SECOND FORM's CARD OF 'scrimshawlaw24.DeskPlays'. -/
def deskPlaysUptoCard : Claim7 := { stood := { row := deskPlaysUptoRow, standIns := [], harness := (true, "632e3ae45b16bee709e9349d55930d394c70d56309885983dd6776689c3efc9d"), looks := true }, kinds := [], alts := [], laidByText := true, laidKinds := [.data, .data, .data, .data, .sentinel, .sentinel, .pinned], laidTests := true, laidLooks := .later }
def DeskPlaysUptoCardSaid : Prop := Claim7.holds Tryz.pinned (.plain (OpenSpec.upto deskPlaysSpec)) deskPlaysUptoCard

/-- THE SECOND FORM's CARD OF 'scrimshawtop.TopScripts'. -/
def topScriptsUptoCard : Claim7 := { stood := { row := topScriptsUptoRow, standIns := [], harness := (true, "632e3ae45b16bee709e9349d55930d394c70d56309885983dd6776689c3efc9d"), looks := true }, kinds := [], alts := [], laidByText := true, laidKinds := [.data], laidTests := true, laidLooks := .later }
def TopScriptsUptoCardSaid : Prop := Claim7.holds Tryz.pinned (.plain (OpenSpec.upto topScriptsSpec)) topScriptsUptoCard
end Rows
end Go.Proofs.YtihaijbgmjdhgaaGreatDoor
