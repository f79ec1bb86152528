/-
  DERIVED. GIVEN WITH THE SEED: THE CARDS: each row of YtnhmjomhloainaaGreatDoorRows.lean that lists a variable, with what it lists TIED to the program's text (the seventh form; the later family's looks); each row that meets fmt, with fmt's text TOLD by the authors' own Lean function (tested against real Go, not proved from fmt's source: count such statements apart). THE CARD IS WHAT COUNTS. Prove the row's statement (the work); the ties are given (YtnhmjomhloainaaGreatDoorTie.lean); close each card by the builder's one call (the guide's Derived/Test/ToyasCard.lean, 'card_holds'). Laid BY PROGRAM, IN A SANDBOX (cutbox-door.mjs). By AI agents, Wed Nov 11 2026. No macro, syntax, notation, axiom, sorry.
-/
import Derived.Test.YtnhmjomhloainaaGreatDoorRows
import GoSem.ClaimSeven
namespace Go.Proofs.YtnhmjomhloainaaGreatDoor
namespace Rows

/-- THE TIED CARD OF 'scrimshawlaw19.SnapSame'. -/
def snapSameCard : Claim7 := { stood := { row := snapSameRow, standIns := [], harness := (true, "5cbd0a82aa04b7ed8e787d8cbbeb4d66821df276a3bc616fb6b91376745b0923"), looks := false }, kinds := [], alts := [], laidByText := true, laidKinds := [.data], laidTests := true, laidLooks := .later }
def SnapSameCardSaid : Prop := Claim7.holds Tryz.pinned (.plain (OpenSpec.ofChange snapSameSpec)) snapSameCard

/-- THE TIED CARD OF 'scrimshawlaw19.SnapAsks'. -/
def snapAsksCard : Claim7 := { stood := { row := snapAsksRow, standIns := [], harness := (true, "5cbd0a82aa04b7ed8e787d8cbbeb4d66821df276a3bc616fb6b91376745b0923"), looks := false }, kinds := [], alts := [], laidByText := true, laidKinds := [.data], laidTests := true, laidLooks := .later }
def SnapAsksCardSaid : Prop := Claim7.holds Tryz.pinned (.plain (OpenSpec.ofChange snapAsksSpec)) snapAsksCard

/-- THE TIED CARD OF 'scrimshawlaw19.SnapBack'. -/
def snapBackCard : Claim7 := { stood := { row := snapBackRow, standIns := [], harness := (true, "5cbd0a82aa04b7ed8e787d8cbbeb4d66821df276a3bc616fb6b91376745b0923"), looks := false }, kinds := [], alts := [], laidByText := true, laidKinds := [.data], laidTests := true, laidLooks := .later }
def SnapBackCardSaid : Prop := Claim7.holds Tryz.pinned (.plain (OpenSpec.ofChange snapBackSpec)) snapBackCard

/-- THE TIED CARD OF 'scrimshawlaw21.StoreSame'. -/
def storeSameCard : Claim7 := { stood := { row := storeSameRow, standIns := [], harness := (true, "5cbd0a82aa04b7ed8e787d8cbbeb4d66821df276a3bc616fb6b91376745b0923"), looks := false }, kinds := [], alts := [], laidByText := true, laidKinds := [.data], laidTests := true, laidLooks := .later }
def StoreSameCardSaid : Prop := Claim7.holds Tryz.pinned (.plain (OpenSpec.ofChange storeSameSpec)) storeSameCard

/-- THE TIED CARD OF 'scrimshawlaw21.StoreReloads'. -/
def storeReloadsCard : Claim7 := { stood := { row := storeReloadsRow, standIns := [], harness := (true, "5cbd0a82aa04b7ed8e787d8cbbeb4d66821df276a3bc616fb6b91376745b0923"), looks := false }, kinds := [], alts := [], laidByText := true, laidKinds := [.data], laidTests := true, laidLooks := .later }
def StoreReloadsCardSaid : Prop := Claim7.holds Tryz.pinned (.plain (OpenSpec.ofChange storeReloadsSpec)) storeReloadsCard

/-- THE TIED CARD OF 'scrimshawlaw21.StorePlays'. -/
def storePlaysCard : Claim7 := { stood := { row := storePlaysRow, standIns := [], harness := (true, "5cbd0a82aa04b7ed8e787d8cbbeb4d66821df276a3bc616fb6b91376745b0923"), looks := false }, kinds := [], alts := [], laidByText := true, laidKinds := [.data], laidTests := true, laidLooks := .later }
def StorePlaysCardSaid : Prop := Claim7.holds Tryz.pinned (.plain (OpenSpec.ofChange storePlaysSpec)) storePlaysCard

/-- THE TIED CARD OF 'scrimshawlaw21.StoreLoads'. -/
def storeLoadsCard : Claim7 := { stood := { row := storeLoadsRow, standIns := [], harness := (true, "5cbd0a82aa04b7ed8e787d8cbbeb4d66821df276a3bc616fb6b91376745b0923"), looks := false }, kinds := [], alts := [], laidByText := true, laidKinds := [.data], laidTests := true, laidLooks := .later }
def StoreLoadsCardSaid : Prop := Claim7.holds Tryz.pinned (.plain (OpenSpec.ofChange storeLoadsSpec)) storeLoadsCard

/-- THE TIED CARD OF 'scrimshawlaw21.StoreRefused'. -/
def storeRefusedCard : Claim7 := { stood := { row := storeRefusedRow, standIns := [], harness := (true, "5cbd0a82aa04b7ed8e787d8cbbeb4d66821df276a3bc616fb6b91376745b0923"), looks := false }, kinds := [], alts := [], laidByText := true, laidKinds := [.data], laidTests := true, laidLooks := .later }
def StoreRefusedCardSaid : Prop := Claim7.holds Tryz.pinned (.plain (OpenSpec.ofChange storeRefusedSpec)) storeRefusedCard

/-- THE TIED CARD OF 'scrimshawlaw22.ScriptAsks'. -/
def scriptAsksCard : Claim7 := { stood := { row := scriptAsksRow, standIns := [], harness := (true, "5cbd0a82aa04b7ed8e787d8cbbeb4d66821df276a3bc616fb6b91376745b0923"), looks := false }, kinds := [], alts := [], laidByText := true, laidKinds := [.data], laidTests := true, laidLooks := .later }
def ScriptAsksCardSaid : Prop := Claim7.holds Tryz.pinned (.plain (OpenSpec.ofChange scriptAsksSpec)) scriptAsksCard

/-- THE TIED CARD OF 'scrimshawlaw22.ScriptRuns'. -/
def scriptRunsCard : Claim7 := { stood := { row := scriptRunsRow, standIns := [], harness := (true, "5cbd0a82aa04b7ed8e787d8cbbeb4d66821df276a3bc616fb6b91376745b0923"), looks := false }, kinds := [], alts := [], laidByText := true, laidKinds := [.data], laidTests := true, laidLooks := .later }
def ScriptRunsCardSaid : Prop := Claim7.holds Tryz.pinned (.plain (OpenSpec.ofChange scriptRunsSpec)) scriptRunsCard

/-- THE TIED CARD OF 'scrimshawlaw22.ScriptParts'. -/
def scriptPartsCard : Claim7 := { stood := { row := scriptPartsRow, standIns := [], harness := (true, "5cbd0a82aa04b7ed8e787d8cbbeb4d66821df276a3bc616fb6b91376745b0923"), looks := false }, kinds := [], alts := [], laidByText := true, laidKinds := [.data], laidTests := true, laidLooks := .later }
def ScriptPartsCardSaid : Prop := Claim7.holds Tryz.pinned (.plain (OpenSpec.ofChange scriptPartsSpec)) scriptPartsCard

/-- THE TIED CARD OF 'scrimshawtop.TopScripts'. -/
def topScriptsCard : Claim7 := { stood := { row := topScriptsRow, standIns := [], harness := (true, "5cbd0a82aa04b7ed8e787d8cbbeb4d66821df276a3bc616fb6b91376745b0923"), looks := false }, kinds := [], alts := [], laidByText := true, laidKinds := [.data], laidTests := true, laidLooks := .later }
def TopScriptsCardSaid : Prop := Claim7.holds Tryz.pinned (.plain (OpenSpec.ofChange topScriptsSpec)) topScriptsCard

/-- THE SECOND FORM's CARD OF 'scrimshawlaw19.SnapSame'. -/
def snapSameUptoCard : Claim7 := { stood := { row := snapSameUptoRow, standIns := [], harness := (true, "5cbd0a82aa04b7ed8e787d8cbbeb4d66821df276a3bc616fb6b91376745b0923"), looks := false }, kinds := [], alts := [], laidByText := true, laidKinds := [.data], laidTests := true, laidLooks := .later }
def SnapSameUptoCardSaid : Prop := Claim7.holds Tryz.pinned (.plain (OpenSpec.upto snapSameSpec)) snapSameUptoCard

/-- THE SECOND FORM's CARD OF 'scrimshawlaw19.SnapAsks'. -/
def snapAsksUptoCard : Claim7 := { stood := { row := snapAsksUptoRow, standIns := [], harness := (true, "5cbd0a82aa04b7ed8e787d8cbbeb4d66821df276a3bc616fb6b91376745b0923"), looks := false }, kinds := [], alts := [], laidByText := true, laidKinds := [.data], laidTests := true, laidLooks := .later }
def SnapAsksUptoCardSaid : Prop := Claim7.holds Tryz.pinned (.plain (OpenSpec.upto snapAsksSpec)) snapAsksUptoCard

/-- THE SECOND FORM's CARD OF 'scrimshawlaw19.SnapBack'. -/
def snapBackUptoCard : Claim7 := { stood := { row := snapBackUptoRow, standIns := [], harness := (true, "5cbd0a82aa04b7ed8e787d8cbbeb4d66821df276a3bc616fb6b91376745b0923"), looks := false }, kinds := [], alts := [], laidByText := true, laidKinds := [.data], laidTests := true, laidLooks := .later }
def SnapBackUptoCardSaid : Prop := Claim7.holds Tryz.pinned (.plain (OpenSpec.upto snapBackSpec)) snapBackUptoCard

/-- THE SECOND FORM's CARD OF 'scrimshawlaw21.StoreSame'. -/
def storeSameUptoCard : Claim7 := { stood := { row := storeSameUptoRow, standIns := [], harness := (true, "5cbd0a82aa04b7ed8e787d8cbbeb4d66821df276a3bc616fb6b91376745b0923"), looks := false }, kinds := [], alts := [], laidByText := true, laidKinds := [.data], laidTests := true, laidLooks := .later }
def StoreSameUptoCardSaid : Prop := Claim7.holds Tryz.pinned (.plain (OpenSpec.upto storeSameSpec)) storeSameUptoCard

/-- THE SECOND FORM's CARD OF 'scrimshawlaw21.StoreReloads'. -/
def storeReloadsUptoCard : Claim7 := { stood := { row := storeReloadsUptoRow, standIns := [], harness := (true, "5cbd0a82aa04b7ed8e787d8cbbeb4d66821df276a3bc616fb6b91376745b0923"), looks := false }, kinds := [], alts := [], laidByText := true, laidKinds := [.data], laidTests := true, laidLooks := .later }
def StoreReloadsUptoCardSaid : Prop := Claim7.holds Tryz.pinned (.plain (OpenSpec.upto storeReloadsSpec)) storeReloadsUptoCard

/-- THE SECOND FORM's CARD OF 'scrimshawlaw21.StorePlays'. -/
def storePlaysUptoCard : Claim7 := { stood := { row := storePlaysUptoRow, standIns := [], harness := (true, "5cbd0a82aa04b7ed8e787d8cbbeb4d66821df276a3bc616fb6b91376745b0923"), looks := false }, kinds := [], alts := [], laidByText := true, laidKinds := [.data], laidTests := true, laidLooks := .later }
def StorePlaysUptoCardSaid : Prop := Claim7.holds Tryz.pinned (.plain (OpenSpec.upto storePlaysSpec)) storePlaysUptoCard

/-- THE SECOND FORM's CARD OF 'scrimshawlaw21.StoreLoads'. -/
def storeLoadsUptoCard : Claim7 := { stood := { row := storeLoadsUptoRow, standIns := [], harness := (true, "5cbd0a82aa04b7ed8e787d8cbbeb4d66821df276a3bc616fb6b91376745b0923"), looks := false }, kinds := [], alts := [], laidByText := true, laidKinds := [.data], laidTests := true, laidLooks := .later }
def StoreLoadsUptoCardSaid : Prop := Claim7.holds Tryz.pinned (.plain (OpenSpec.upto storeLoadsSpec)) storeLoadsUptoCard

/-- THE SECOND FORM's CARD OF 'scrimshawlaw21.StoreRefused'. -/
def storeRefusedUptoCard : Claim7 := { stood := { row := storeRefusedUptoRow, standIns := [], harness := (true, "5cbd0a82aa04b7ed8e787d8cbbeb4d66821df276a3bc616fb6b91376745b0923"), looks := false }, kinds := [], alts := [], laidByText := true, laidKinds := [.data], laidTests := true, laidLooks := .later }
def StoreRefusedUptoCardSaid : Prop := Claim7.holds Tryz.pinned (.plain (OpenSpec.upto storeRefusedSpec)) storeRefusedUptoCard

/-- THE SECOND FORM's CARD OF 'scrimshawlaw22.ScriptAsks'. -/
def scriptAsksUptoCard : Claim7 := { stood := { row := scriptAsksUptoRow, standIns := [], harness := (true, "5cbd0a82aa04b7ed8e787d8cbbeb4d66821df276a3bc616fb6b91376745b0923"), looks := false }, kinds := [], alts := [], laidByText := true, laidKinds := [.data], laidTests := true, laidLooks := .later }
def ScriptAsksUptoCardSaid : Prop := Claim7.holds Tryz.pinned (.plain (OpenSpec.upto scriptAsksSpec)) scriptAsksUptoCard

/-- THE SECOND FORM's CARD OF 'scrimshawlaw22.ScriptRuns'. -/
def scriptRunsUptoCard : Claim7 := { stood := { row := scriptRunsUptoRow, standIns := [], harness := (true, "5cbd0a82aa04b7ed8e787d8cbbeb4d66821df276a3bc616fb6b91376745b0923"), looks := false }, kinds := [], alts := [], laidByText := true, laidKinds := [.data], laidTests := true, laidLooks := .later }
def ScriptRunsUptoCardSaid : Prop := Claim7.holds Tryz.pinned (.plain (OpenSpec.upto scriptRunsSpec)) scriptRunsUptoCard

/-- THE SECOND FORM's CARD OF 'scrimshawlaw22.ScriptParts'. -/
def scriptPartsUptoCard : Claim7 := { stood := { row := scriptPartsUptoRow, standIns := [], harness := (true, "5cbd0a82aa04b7ed8e787d8cbbeb4d66821df276a3bc616fb6b91376745b0923"), looks := false }, kinds := [], alts := [], laidByText := true, laidKinds := [.data], laidTests := true, laidLooks := .later }
def ScriptPartsUptoCardSaid : Prop := Claim7.holds Tryz.pinned (.plain (OpenSpec.upto scriptPartsSpec)) scriptPartsUptoCard

/-- THE SECOND FORM's CARD OF 'scrimshawtop.TopScripts'. -/
def topScriptsUptoCard : Claim7 := { stood := { row := topScriptsUptoRow, standIns := [], harness := (true, "5cbd0a82aa04b7ed8e787d8cbbeb4d66821df276a3bc616fb6b91376745b0923"), looks := false }, kinds := [], alts := [], laidByText := true, laidKinds := [.data], laidTests := true, laidLooks := .later }
def TopScriptsUptoCardSaid : Prop := Claim7.holds Tryz.pinned (.plain (OpenSpec.upto topScriptsSpec)) topScriptsUptoCard
end Rows
end Go.Proofs.YtnhmjomhloainaaGreatDoor
