/-
  DERIVED. GIVEN WITH THE SEED: THE CARDS: each row of YtlghmcogeipojaaGreatDoorRows.lean that lists a variable, with what it lists TIED to the program's text (the seventh form; the later family's looks); each row that meets fmt, with fmt's text TOLD by the authors' own Lean function (tested against real Go, not proved from fmt's source: count such statements apart). THE CARD IS WHAT COUNTS. Prove the row's statement (the work); the ties are given (YtlghmcogeipojaaGreatDoorTie.lean); close each card by the builder's one call (the guide's Derived/Test/ToyasCard.lean, 'card_holds'). Laid BY PROGRAM, IN A SANDBOX (cutbox-door.mjs). By AI agents, Wed Nov 11 2026. No macro, syntax, notation, axiom, sorry.
-/
import Derived.Test.YtlghmcogeipojaaGreatDoorRows
import GoSem.ClaimSeven
namespace Go.Proofs.YtlghmcogeipojaaGreatDoor
namespace Rows

/-- THE TIED CARD OF 'scrimshawtop.TopLong'. -/
def topLongCard : Claim7 := { stood := { row := topLongRow, standIns := [], harness := (true, "46d7aee4ca3fc48f402d5d172d780a9b09eac2e2576ca2510963bb71df4db77e"), looks := false }, kinds := [], alts := [], laidByText := true, laidKinds := [.data], laidTests := true, laidLooks := .later }
def TopLongCardSaid : Prop := Claim7.holds Tryz.pinned (.plain (OpenSpec.ofChange topLongSpec)) topLongCard

/-- THE TIED CARD OF 'scrimshawtop.TopSteps'. -/
def topStepsCard : Claim7 := { stood := { row := topStepsRow, standIns := [], harness := (true, "46d7aee4ca3fc48f402d5d172d780a9b09eac2e2576ca2510963bb71df4db77e"), looks := false }, kinds := [], alts := [], laidByText := true, laidKinds := [.data], laidTests := true, laidLooks := .later }
def TopStepsCardSaid : Prop := Claim7.holds Tryz.pinned (.plain (OpenSpec.ofChange topStepsSpec)) topStepsCard

/-- THE SECOND FORM's CARD OF 'scrimshawtop.TopLong'. -/
def topLongUptoCard : Claim7 := { stood := { row := topLongUptoRow, standIns := [], harness := (true, "46d7aee4ca3fc48f402d5d172d780a9b09eac2e2576ca2510963bb71df4db77e"), looks := false }, kinds := [], alts := [], laidByText := true, laidKinds := [.data], laidTests := true, laidLooks := .later }
def TopLongUptoCardSaid : Prop := Claim7.holds Tryz.pinned (.plain (OpenSpec.upto topLongSpec)) topLongUptoCard

/-- THE SECOND FORM's CARD OF 'scrimshawtop.TopSteps'. -/
def topStepsUptoCard : Claim7 := { stood := { row := topStepsUptoRow, standIns := [], harness := (true, "46d7aee4ca3fc48f402d5d172d780a9b09eac2e2576ca2510963bb71df4db77e"), looks := false }, kinds := [], alts := [], laidByText := true, laidKinds := [.data], laidTests := true, laidLooks := .later }
def TopStepsUptoCardSaid : Prop := Claim7.holds Tryz.pinned (.plain (OpenSpec.upto topStepsSpec)) topStepsUptoCard
end Rows
end Go.Proofs.YtlghmcogeipojaaGreatDoor
