/-
  DERIVED. GIVEN WITH THE SEED: THE CARDS: each row of YthldmddkfbijhaaGreatDoorRows.lean that lists a variable, with what it lists TIED to the program's text (the seventh form; the later family's looks); each row that meets fmt, with fmt's text TOLD by the authors' own Lean function (tested against real Go, not proved from fmt's source: count such statements apart). THE CARD IS WHAT COUNTS. Prove the row's statement (the work); the ties are given (YthldmddkfbijhaaGreatDoorTie.lean); close each card by the builder's one call (the guide's Derived/Test/ToyasCard.lean, 'card_holds'). Laid BY PROGRAM, IN A SANDBOX (cutbox-door.mjs). By AI agents, Wed Nov 11 2026. No macro, syntax, notation, axiom, sorry.
-/
import Derived.Test.YthldmddkfbijhaaGreatDoorRows
import GoSem.ClaimSeven
namespace Go.Proofs.YthldmddkfbijhaaGreatDoor
namespace Rows

/-- THE TIED CARD OF 'scrimshawlaw19.SnapBack'. -/
def snapBackCard : Claim7 := { stood := { row := snapBackRow, standIns := [], harness := (true, "bbfea431d2da9e3b7e66b651a39e0a3d02e1697b5855c6be4f6cd18027f3ce40"), looks := false }, kinds := [], alts := [], laidByText := true, laidKinds := [.data], laidTests := true, laidLooks := .later }
def SnapBackCardSaid : Prop := Claim7.holds Tryz.pinned (.plain (OpenSpec.ofChange snapBackSpec)) snapBackCard

/-- THE TIED CARD OF 'scrimshawlaw21.StoreReloads'. -/
def storeReloadsCard : Claim7 := { stood := { row := storeReloadsRow, standIns := [], harness := (true, "bbfea431d2da9e3b7e66b651a39e0a3d02e1697b5855c6be4f6cd18027f3ce40"), looks := false }, kinds := [], alts := [], laidByText := true, laidKinds := [.data], laidTests := true, laidLooks := .later }
def StoreReloadsCardSaid : Prop := Claim7.holds Tryz.pinned (.plain (OpenSpec.ofChange storeReloadsSpec)) storeReloadsCard

/-- THE TIED CARD OF 'scrimshawlaw21.StorePlays'. -/
def storePlaysCard : Claim7 := { stood := { row := storePlaysRow, standIns := [], harness := (true, "bbfea431d2da9e3b7e66b651a39e0a3d02e1697b5855c6be4f6cd18027f3ce40"), looks := false }, kinds := [], alts := [], laidByText := true, laidKinds := [.data], laidTests := true, laidLooks := .later }
def StorePlaysCardSaid : Prop := Claim7.holds Tryz.pinned (.plain (OpenSpec.ofChange storePlaysSpec)) storePlaysCard

/-- THE TIED CARD OF 'scrimshawlaw21.StoreLoads'. -/
def storeLoadsCard : Claim7 := { stood := { row := storeLoadsRow, standIns := [], harness := (true, "bbfea431d2da9e3b7e66b651a39e0a3d02e1697b5855c6be4f6cd18027f3ce40"), looks := false }, kinds := [], alts := [], laidByText := true, laidKinds := [.data], laidTests := true, laidLooks := .later }
def StoreLoadsCardSaid : Prop := Claim7.holds Tryz.pinned (.plain (OpenSpec.ofChange storeLoadsSpec)) storeLoadsCard

/-- THE TIED CARD OF 'scrimshawlaw21.StoreRefused'. -/
def storeRefusedCard : Claim7 := { stood := { row := storeRefusedRow, standIns := [], harness := (true, "bbfea431d2da9e3b7e66b651a39e0a3d02e1697b5855c6be4f6cd18027f3ce40"), looks := false }, kinds := [], alts := [], laidByText := true, laidKinds := [.data], laidTests := true, laidLooks := .later }
def StoreRefusedCardSaid : Prop := Claim7.holds Tryz.pinned (.plain (OpenSpec.ofChange storeRefusedSpec)) storeRefusedCard

/-- THE TIED CARD OF 'scrimshawlaw22.ScriptAsks'. -/
def scriptAsksCard : Claim7 := { stood := { row := scriptAsksRow, standIns := [], harness := (true, "bbfea431d2da9e3b7e66b651a39e0a3d02e1697b5855c6be4f6cd18027f3ce40"), looks := false }, kinds := [], alts := [], laidByText := true, laidKinds := [.data], laidTests := true, laidLooks := .later }
def ScriptAsksCardSaid : Prop := Claim7.holds Tryz.pinned (.plain (OpenSpec.ofChange scriptAsksSpec)) scriptAsksCard

/-- THE SECOND FORM's CARD OF 'scrimshawlaw19.SnapBack'. -/
def snapBackUptoCard : Claim7 := { stood := { row := snapBackUptoRow, standIns := [], harness := (true, "bbfea431d2da9e3b7e66b651a39e0a3d02e1697b5855c6be4f6cd18027f3ce40"), looks := false }, kinds := [], alts := [], laidByText := true, laidKinds := [.data], laidTests := true, laidLooks := .later }
def SnapBackUptoCardSaid : Prop := Claim7.holds Tryz.pinned (.plain (OpenSpec.upto snapBackSpec)) snapBackUptoCard

/-- THE SECOND FORM's CARD OF 'scrimshawlaw21.StoreReloads'. -/
def storeReloadsUptoCard : Claim7 := { stood := { row := storeReloadsUptoRow, standIns := [], harness := (true, "bbfea431d2da9e3b7e66b651a39e0a3d02e1697b5855c6be4f6cd18027f3ce40"), looks := false }, kinds := [], alts := [], laidByText := true, laidKinds := [.data], laidTests := true, laidLooks := .later }
def StoreReloadsUptoCardSaid : Prop := Claim7.holds Tryz.pinned (.plain (OpenSpec.upto storeReloadsSpec)) storeReloadsUptoCard

/-- THE SECOND FORM's CARD OF 'scrimshawlaw21.StorePlays'. -/
def storePlaysUptoCard : Claim7 := { stood := { row := storePlaysUptoRow, standIns := [], harness := (true, "bbfea431d2da9e3b7e66b651a39e0a3d02e1697b5855c6be4f6cd18027f3ce40"), looks := false }, kinds := [], alts := [], laidByText := true, laidKinds := [.data], laidTests := true, laidLooks := .later }
def StorePlaysUptoCardSaid : Prop := Claim7.holds Tryz.pinned (.plain (OpenSpec.upto storePlaysSpec)) storePlaysUptoCard

/-- THE SECOND FORM's CARD OF 'scrimshawlaw21.StoreLoads'. -/
def storeLoadsUptoCard : Claim7 := { stood := { row := storeLoadsUptoRow, standIns := [], harness := (true, "bbfea431d2da9e3b7e66b651a39e0a3d02e1697b5855c6be4f6cd18027f3ce40"), looks := false }, kinds := [], alts := [], laidByText := true, laidKinds := [.data], laidTests := true, laidLooks := .later }
def StoreLoadsUptoCardSaid : Prop := Claim7.holds Tryz.pinned (.plain (OpenSpec.upto storeLoadsSpec)) storeLoadsUptoCard

/-- THE SECOND FORM's CARD OF 'scrimshawlaw21.StoreRefused'. -/
def storeRefusedUptoCard : Claim7 := { stood := { row := storeRefusedUptoRow, standIns := [], harness := (true, "bbfea431d2da9e3b7e66b651a39e0a3d02e1697b5855c6be4f6cd18027f3ce40"), looks := false }, kinds := [], alts := [], laidByText := true, laidKinds := [.data], laidTests := true, laidLooks := .later }
def StoreRefusedUptoCardSaid : Prop := Claim7.holds Tryz.pinned (.plain (OpenSpec.upto storeRefusedSpec)) storeRefusedUptoCard

/-- THE SECOND FORM's CARD OF 'scrimshawlaw22.ScriptAsks'. -/
def scriptAsksUptoCard : Claim7 := { stood := { row := scriptAsksUptoRow, standIns := [], harness := (true, "bbfea431d2da9e3b7e66b651a39e0a3d02e1697b5855c6be4f6cd18027f3ce40"), looks := false }, kinds := [], alts := [], laidByText := true, laidKinds := [.data], laidTests := true, laidLooks := .later }
def ScriptAsksUptoCardSaid : Prop := Claim7.holds Tryz.pinned (.plain (OpenSpec.upto scriptAsksSpec)) scriptAsksUptoCard
end Rows
end Go.Proofs.YthldmddkfbijhaaGreatDoor
