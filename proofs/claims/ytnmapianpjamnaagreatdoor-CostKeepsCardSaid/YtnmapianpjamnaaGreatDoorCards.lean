/-
  DERIVED. GIVEN WITH THE SEED: THE CARDS: each row of YtnmapianpjamnaaGreatDoorRows.lean that lists a variable, with what it lists TIED to the program's text (the seventh form; the later family's looks); each row that meets fmt, with fmt's text TOLD by the authors' own Lean function (tested against real Go, not proved from fmt's source: count such statements apart). THE CARD IS WHAT COUNTS. Prove the row's statement (the work); the ties are given (YtnmapianpjamnaaGreatDoorTie.lean); close each card by the builder's one call (the guide's Derived/Test/ToyasCard.lean, 'card_holds'). Laid BY PROGRAM, IN A SANDBOX (cutbox-door.mjs). By AI agents, Wed Nov 11 2026. No macro, syntax, notation, axiom, sorry.
-/
import Derived.Test.YtnmapianpjamnaaGreatDoorRows
import GoSem.ClaimSeven
namespace Go.Proofs.YtnmapianpjamnaaGreatDoor
namespace Rows

/-- THE TIED CARD OF 'scrimshawtop.TopLong'. -/
def topLongCard : Claim7 := { stood := { row := topLongRow, standIns := [], harness := (true, "9e4f144070fe15b834d4056bfed3180bd5e9788ade779437e2aa04ef51c7ef93"), looks := false }, kinds := [], alts := [], laidByText := true, laidKinds := [.data], laidTests := true, laidLooks := .later }
def TopLongCardSaid : Prop := Claim7.holds Tryz.pinned (.plain (OpenSpec.ofChange topLongSpec)) topLongCard

/-- THE TIED CARD OF 'scrimshawtop.TopSteps'. -/
def topStepsCard : Claim7 := { stood := { row := topStepsRow, standIns := [], harness := (true, "9e4f144070fe15b834d4056bfed3180bd5e9788ade779437e2aa04ef51c7ef93"), looks := false }, kinds := [], alts := [], laidByText := true, laidKinds := [.data], laidTests := true, laidLooks := .later }
def TopStepsCardSaid : Prop := Claim7.holds Tryz.pinned (.plain (OpenSpec.ofChange topStepsSpec)) topStepsCard

/-- THE TIED CARD OF 'scrimshawlaw19.SnapLook'. -/
def snapLookCard : Claim7 := { stood := { row := snapLookRow, standIns := [], harness := (true, "9e4f144070fe15b834d4056bfed3180bd5e9788ade779437e2aa04ef51c7ef93"), looks := false }, kinds := [], alts := [], laidByText := true, laidKinds := [.data], laidTests := true, laidLooks := .later }
def SnapLookCardSaid : Prop := Claim7.holds Tryz.pinned (.plain (OpenSpec.ofChange snapLookSpec)) snapLookCard

/-- THE TIED CARD OF 'scrimshawlaw23.CostKeeps'. -/
def costKeepsCard : Claim7 := { stood := { row := costKeepsRow, standIns := [], harness := (true, "9e4f144070fe15b834d4056bfed3180bd5e9788ade779437e2aa04ef51c7ef93"), looks := false }, kinds := [], alts := [], laidByText := true, laidKinds := [.data], laidTests := true, laidLooks := .later }
def CostKeepsCardSaid : Prop := Claim7.holds Tryz.pinned (.plain (OpenSpec.ofChange costKeepsSpec)) costKeepsCard

/-- THE TIED CARD OF 'scrimshawlaw21.StoreModel'. -/
def storeModelCard : Claim7 := { stood := { row := storeModelRow, standIns := [], harness := (true, "9e4f144070fe15b834d4056bfed3180bd5e9788ade779437e2aa04ef51c7ef93"), looks := false }, kinds := [], alts := [], laidByText := true, laidKinds := [.data], laidTests := true, laidLooks := .later }
def StoreModelCardSaid : Prop := Claim7.holds Tryz.pinned (.plain (OpenSpec.ofChange storeModelSpec)) storeModelCard

/-- THE SECOND FORM's CARD OF 'scrimshawtop.TopLong'. -/
def topLongUptoCard : Claim7 := { stood := { row := topLongUptoRow, standIns := [], harness := (true, "9e4f144070fe15b834d4056bfed3180bd5e9788ade779437e2aa04ef51c7ef93"), looks := false }, kinds := [], alts := [], laidByText := true, laidKinds := [.data], laidTests := true, laidLooks := .later }
def TopLongUptoCardSaid : Prop := Claim7.holds Tryz.pinned (.plain (OpenSpec.upto topLongSpec)) topLongUptoCard

/-- THE SECOND FORM's CARD OF 'scrimshawtop.TopSteps'. -/
def topStepsUptoCard : Claim7 := { stood := { row := topStepsUptoRow, standIns := [], harness := (true, "9e4f144070fe15b834d4056bfed3180bd5e9788ade779437e2aa04ef51c7ef93"), looks := false }, kinds := [], alts := [], laidByText := true, laidKinds := [.data], laidTests := true, laidLooks := .later }
def TopStepsUptoCardSaid : Prop := Claim7.holds Tryz.pinned (.plain (OpenSpec.upto topStepsSpec)) topStepsUptoCard

/-- THE SECOND FORM's CARD OF 'scrimshawlaw19.SnapLook'. -/
def snapLookUptoCard : Claim7 := { stood := { row := snapLookUptoRow, standIns := [], harness := (true, "9e4f144070fe15b834d4056bfed3180bd5e9788ade779437e2aa04ef51c7ef93"), looks := false }, kinds := [], alts := [], laidByText := true, laidKinds := [.data], laidTests := true, laidLooks := .later }
def SnapLookUptoCardSaid : Prop := Claim7.holds Tryz.pinned (.plain (OpenSpec.upto snapLookSpec)) snapLookUptoCard

/-- THE SECOND FORM's CARD OF 'scrimshawlaw23.CostKeeps'. -/
def costKeepsUptoCard : Claim7 := { stood := { row := costKeepsUptoRow, standIns := [], harness := (true, "9e4f144070fe15b834d4056bfed3180bd5e9788ade779437e2aa04ef51c7ef93"), looks := false }, kinds := [], alts := [], laidByText := true, laidKinds := [.data], laidTests := true, laidLooks := .later }
def CostKeepsUptoCardSaid : Prop := Claim7.holds Tryz.pinned (.plain (OpenSpec.upto costKeepsSpec)) costKeepsUptoCard

/-- THE SECOND FORM's CARD OF 'scrimshawlaw21.StoreModel'. -/
def storeModelUptoCard : Claim7 := { stood := { row := storeModelUptoRow, standIns := [], harness := (true, "9e4f144070fe15b834d4056bfed3180bd5e9788ade779437e2aa04ef51c7ef93"), looks := false }, kinds := [], alts := [], laidByText := true, laidKinds := [.data], laidTests := true, laidLooks := .later }
def StoreModelUptoCardSaid : Prop := Claim7.holds Tryz.pinned (.plain (OpenSpec.upto storeModelSpec)) storeModelUptoCard
end Rows
end Go.Proofs.YtnmapianpjamnaaGreatDoor
