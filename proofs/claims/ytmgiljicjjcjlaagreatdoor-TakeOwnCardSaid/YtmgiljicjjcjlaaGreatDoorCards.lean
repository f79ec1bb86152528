/-
  DERIVED. GIVEN WITH THE SEED: THE CARDS: each row of YtmgiljicjjcjlaaGreatDoorRows.lean that lists a variable, with what it lists TIED to the program's text (the seventh form; the later family's looks); each row that meets fmt, with fmt's text TOLD by the authors' own Lean function (tested against real Go, not proved from fmt's source: count such statements apart). THE CARD IS WHAT COUNTS. Prove the row's statement (the work); the ties are given (YtmgiljicjjcjlaaGreatDoorTie.lean); close each card by the builder's one call (the guide's Derived/Test/ToyasCard.lean, 'card_holds'). Laid BY PROGRAM, IN A SANDBOX (cutbox-door.mjs). By AI agents, Wed Nov 11 2026. No macro, syntax, notation, axiom, sorry.
-/
import Derived.Test.YtmgiljicjjcjlaaGreatDoorRows
import GoSem.ClaimSeven
namespace Go.Proofs.YtmgiljicjjcjlaaGreatDoor
namespace Rows

/-- THE TIED CARD OF 'scrimshawlaw15.TakeParts'. -/
def takePartsCard : Claim7 := { stood := { row := takePartsRow, standIns := [], harness := (true, "92c33c8c6c03d1ab3c696ae153efea0c65999e6409ce3a2b8ad114720fad6c0c"), looks := false }, kinds := [], alts := [], laidByText := true, laidKinds := [.data], laidTests := true, laidLooks := .later }
def TakePartsCardSaid : Prop := Claim7.holds Tryz.pinned (.plain (OpenSpec.ofChange takePartsSpec)) takePartsCard

/-- THE TIED CARD OF 'scrimshawlaw15.TakeBytes'. -/
def takeBytesCard : Claim7 := { stood := { row := takeBytesRow, standIns := [], harness := (true, "92c33c8c6c03d1ab3c696ae153efea0c65999e6409ce3a2b8ad114720fad6c0c"), looks := false }, kinds := [], alts := [], laidByText := true, laidKinds := [.data], laidTests := true, laidLooks := .later }
def TakeBytesCardSaid : Prop := Claim7.holds Tryz.pinned (.plain (OpenSpec.ofChange takeBytesSpec)) takeBytesCard

/-- THE TIED CARD OF 'scrimshawlaw15.TakeOwn'. -/
def takeOwnCard : Claim7 := { stood := { row := takeOwnRow, standIns := [], harness := (true, "92c33c8c6c03d1ab3c696ae153efea0c65999e6409ce3a2b8ad114720fad6c0c"), looks := false }, kinds := [], alts := [], laidByText := true, laidKinds := [.data], laidTests := true, laidLooks := .later }
def TakeOwnCardSaid : Prop := Claim7.holds Tryz.pinned (.plain (OpenSpec.ofChange takeOwnSpec)) takeOwnCard

/-- THE SECOND FORM's CARD OF 'scrimshawlaw15.TakeParts'. -/
def takePartsUptoCard : Claim7 := { stood := { row := takePartsUptoRow, standIns := [], harness := (true, "92c33c8c6c03d1ab3c696ae153efea0c65999e6409ce3a2b8ad114720fad6c0c"), looks := false }, kinds := [], alts := [], laidByText := true, laidKinds := [.data], laidTests := true, laidLooks := .later }
def TakePartsUptoCardSaid : Prop := Claim7.holds Tryz.pinned (.plain (OpenSpec.upto takePartsSpec)) takePartsUptoCard

/-- THE SECOND FORM's CARD OF 'scrimshawlaw15.TakeBytes'. -/
def takeBytesUptoCard : Claim7 := { stood := { row := takeBytesUptoRow, standIns := [], harness := (true, "92c33c8c6c03d1ab3c696ae153efea0c65999e6409ce3a2b8ad114720fad6c0c"), looks := false }, kinds := [], alts := [], laidByText := true, laidKinds := [.data], laidTests := true, laidLooks := .later }
def TakeBytesUptoCardSaid : Prop := Claim7.holds Tryz.pinned (.plain (OpenSpec.upto takeBytesSpec)) takeBytesUptoCard

/-- THE SECOND FORM's CARD OF 'scrimshawlaw15.TakeOwn'. -/
def takeOwnUptoCard : Claim7 := { stood := { row := takeOwnUptoRow, standIns := [], harness := (true, "92c33c8c6c03d1ab3c696ae153efea0c65999e6409ce3a2b8ad114720fad6c0c"), looks := false }, kinds := [], alts := [], laidByText := true, laidKinds := [.data], laidTests := true, laidLooks := .later }
def TakeOwnUptoCardSaid : Prop := Claim7.holds Tryz.pinned (.plain (OpenSpec.upto takeOwnSpec)) takeOwnUptoCard
end Rows
end Go.Proofs.YtmgiljicjjcjlaaGreatDoor
