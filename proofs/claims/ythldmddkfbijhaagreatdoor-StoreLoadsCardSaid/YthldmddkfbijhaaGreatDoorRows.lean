/-
  NARROWER THAN 'FOR EVERY INPUT', by the rows' own cells (each row's printed sentence says how): SnapBack: laid · StoreReloads: laid · StorePlays: laid · StoreLoads: laid · StoreRefused: laid · ScriptAsks: laid.
  DERIVED. THE GIVEN ROWS OF THIS SEAT. 6 by the template 'for every input the law returns true; each argument reads behind the call as it read before'; 0 by the template 'total and deterministic' (their statements: YthldmddkfbijhaaGreatDoorTotals.lean).
  GIVEN WITH THE SEED: the statements are not yours to turn. If you find one false, say at which input.
  Laid BY PROGRAM, IN A SANDBOX (cutbox-rows.mjs): the forced cells as the released guide's own fill.sh prints them over the translation 51090c5cb86d0a7a… (all of the seat's roots in one cut). By AI agents, Wed Nov 11 2026. No macro, syntax, notation, axiom, sorry.
-/
import Derived.Test.YthldmddkfbijhaaGreatDoorChecked
import GoSem.Claim
import GoSem.ClaimJoined
import GoSem.ClaimMapViews
import Derived.JoinedTies
import Derived.KernelRfl
namespace Go.Proofs.YthldmddkfbijhaaGreatDoor
/- THE CELL 'sum', in the pinned program and in every row, IS THE sha256 OF THE DUMP (.gsa) THAT YthldmddkfbijhaaGreatDoorProg.lean LOADS. Nothing in Lean hashes anything: it is a label: what it is worth is what the hold of that sum in a sandbox is worth. -/
noncomputable def Tryz.pinned : Pinned := { name := "ythldmddkfbijhaagreatdoor", sum := "51090c5cb86d0a7abfc667c2f289395d86155a6bad8f435df0d021b33660d0cd", checked := Tryz.checked }
namespace Rows
def none {H : Type} : Left H := { results := [], args := [] }

/- WHAT THE LISTED PACKAGE-LEVEL VARIABLES READ AS WHEN THE CALL BEGINS. Each datum BY PROGRAM (the guide's laid-datum.mjs) off the statement by which the dump's own 'gosem.cut.vars' lays the variable. In a bare row this is a premise. The card (YthldmddkfbijhaaGreatDoorCards.lean) ties it to the program's text. -/
def laid_math_bits_deBruijn64tab {H : Type} : DataW H := .agg [.lit (.int .u8 0), .lit (.int .u8 1), .lit (.int .u8 56), .lit (.int .u8 2), .lit (.int .u8 57), .lit (.int .u8 49), .lit (.int .u8 28), .lit (.int .u8 3), .lit (.int .u8 61), .lit (.int .u8 58), .lit (.int .u8 42), .lit (.int .u8 50), .lit (.int .u8 38), .lit (.int .u8 29), .lit (.int .u8 17), .lit (.int .u8 4), .lit (.int .u8 62), .lit (.int .u8 47), .lit (.int .u8 59), .lit (.int .u8 36), .lit (.int .u8 45), .lit (.int .u8 43), .lit (.int .u8 51), .lit (.int .u8 22), .lit (.int .u8 53), .lit (.int .u8 39), .lit (.int .u8 33), .lit (.int .u8 30), .lit (.int .u8 24), .lit (.int .u8 18), .lit (.int .u8 12), .lit (.int .u8 5), .lit (.int .u8 63), .lit (.int .u8 55), .lit (.int .u8 48), .lit (.int .u8 27), .lit (.int .u8 60), .lit (.int .u8 41), .lit (.int .u8 37), .lit (.int .u8 16), .lit (.int .u8 46), .lit (.int .u8 35), .lit (.int .u8 44), .lit (.int .u8 21), .lit (.int .u8 52), .lit (.int .u8 32), .lit (.int .u8 23), .lit (.int .u8 11), .lit (.int .u8 54), .lit (.int .u8 26), .lit (.int .u8 40), .lit (.int .u8 15), .lit (.int .u8 34), .lit (.int .u8 20), .lit (.int .u8 31), .lit (.int .u8 10), .lit (.int .u8 25), .lit (.int .u8 14), .lit (.int .u8 19), .lit (.int .u8 9), .lit (.int .u8 13), .lit (.int .u8 8), .lit (.int .u8 7), .lit (.int .u8 6)]

/-- 'scrimshawlaw19.SnapBack': WHATEVER THE INPUT: true; the input reads as it did. -/
def snapBackSpec : ChangeSpec := { name := "snapBack", fn := fun _ => fun
  | [d1, d2, d3, d4, d5] => { results := [.lit (.bool true)], args := [d1, d2, d3, d4, d5] }
  | _ => none }
def snapBackRow : OpenClaim := { program := "ythldmddkfbijhaagreatdoor", sum := "51090c5cb86d0a7abfc667c2f289395d86155a6bad8f435df0d021b33660d0cd", func := "scrimshaw/scrimshawlaw19.SnapBack", spec := "snapBack", inPlace := ["slices.overlaps[int]"], unfollowed := true, recurses := true, named := ["math/bits.deBruijn64tab"], apart := false, laid := [("math/bits.deBruijn64tab", laid_math_bits_deBruijn64tab)] }
def SnapBackSaid : Prop := snapBackRow.holds Tryz.pinned (OpenSpec.ofChange snapBackSpec)

/-- ITS FALSE NEIGHBOUR: 'it returns false'. Refute it at one input. -/
def snapBackWrong : ChangeSpec := { name := "snapBack", fn := fun _ => fun
  | [d1, d2, d3, d4, d5] => { results := [.lit (.bool false)], args := [d1, d2, d3, d4, d5] }
  | _ => none }
def SnapBackWrongFalsely : Prop := snapBackRow.holds Tryz.pinned (OpenSpec.ofChange snapBackWrong)

/-- 'scrimshawlaw21.StoreReloads': WHATEVER THE INPUT: true; the input reads as it did. -/
def storeReloadsSpec : ChangeSpec := { name := "storeReloads", fn := fun _ => fun
  | [d1, d2] => { results := [.lit (.bool true)], args := [d1, d2] }
  | _ => none }
def storeReloadsRow : OpenClaim := { program := "ythldmddkfbijhaagreatdoor", sum := "51090c5cb86d0a7abfc667c2f289395d86155a6bad8f435df0d021b33660d0cd", func := "scrimshaw/scrimshawlaw21.StoreReloads", spec := "storeReloads", inPlace := ["slices.overlaps[int]"], unfollowed := true, recurses := true, named := ["math/bits.deBruijn64tab"], apart := false, laid := [("math/bits.deBruijn64tab", laid_math_bits_deBruijn64tab)] }
def StoreReloadsSaid : Prop := storeReloadsRow.holds Tryz.pinned (OpenSpec.ofChange storeReloadsSpec)

/-- ITS FALSE NEIGHBOUR: 'it returns false'. Refute it at one input. -/
def storeReloadsWrong : ChangeSpec := { name := "storeReloads", fn := fun _ => fun
  | [d1, d2] => { results := [.lit (.bool false)], args := [d1, d2] }
  | _ => none }
def StoreReloadsWrongFalsely : Prop := storeReloadsRow.holds Tryz.pinned (OpenSpec.ofChange storeReloadsWrong)

/-- 'scrimshawlaw21.StorePlays': WHATEVER THE INPUT: true; the input reads as it did. -/
def storePlaysSpec : ChangeSpec := { name := "storePlays", fn := fun _ => fun
  | [d1, d2, d3] => { results := [.lit (.bool true)], args := [d1, d2, d3] }
  | _ => none }
def storePlaysRow : OpenClaim := { program := "ythldmddkfbijhaagreatdoor", sum := "51090c5cb86d0a7abfc667c2f289395d86155a6bad8f435df0d021b33660d0cd", func := "scrimshaw/scrimshawlaw21.StorePlays", spec := "storePlays", inPlace := ["slices.overlaps[int]"], unfollowed := true, recurses := true, named := ["math/bits.deBruijn64tab"], apart := false, laid := [("math/bits.deBruijn64tab", laid_math_bits_deBruijn64tab)] }
def StorePlaysSaid : Prop := storePlaysRow.holds Tryz.pinned (OpenSpec.ofChange storePlaysSpec)

/-- ITS FALSE NEIGHBOUR: 'it returns false'. Refute it at one input. -/
def storePlaysWrong : ChangeSpec := { name := "storePlays", fn := fun _ => fun
  | [d1, d2, d3] => { results := [.lit (.bool false)], args := [d1, d2, d3] }
  | _ => none }
def StorePlaysWrongFalsely : Prop := storePlaysRow.holds Tryz.pinned (OpenSpec.ofChange storePlaysWrong)

/-- 'scrimshawlaw21.StoreLoads': WHATEVER THE INPUT: true; the input reads as it did. -/
def storeLoadsSpec : ChangeSpec := { name := "storeLoads", fn := fun _ => fun
  | [d1, d2, d3] => { results := [.lit (.bool true)], args := [d1, d2, d3] }
  | _ => none }
def storeLoadsRow : OpenClaim := { program := "ythldmddkfbijhaagreatdoor", sum := "51090c5cb86d0a7abfc667c2f289395d86155a6bad8f435df0d021b33660d0cd", func := "scrimshaw/scrimshawlaw21.StoreLoads", spec := "storeLoads", inPlace := ["slices.overlaps[int]"], unfollowed := true, recurses := true, named := ["math/bits.deBruijn64tab"], apart := false, laid := [("math/bits.deBruijn64tab", laid_math_bits_deBruijn64tab)] }
def StoreLoadsSaid : Prop := storeLoadsRow.holds Tryz.pinned (OpenSpec.ofChange storeLoadsSpec)

/-- ITS FALSE NEIGHBOUR: 'it returns false'. Refute it at one input. -/
def storeLoadsWrong : ChangeSpec := { name := "storeLoads", fn := fun _ => fun
  | [d1, d2, d3] => { results := [.lit (.bool false)], args := [d1, d2, d3] }
  | _ => none }
def StoreLoadsWrongFalsely : Prop := storeLoadsRow.holds Tryz.pinned (OpenSpec.ofChange storeLoadsWrong)

/-- 'scrimshawlaw21.StoreRefused': WHATEVER THE INPUT: true; the input reads as it did. -/
def storeRefusedSpec : ChangeSpec := { name := "storeRefused", fn := fun _ => fun
  | [d1, d2, d3] => { results := [.lit (.bool true)], args := [d1, d2, d3] }
  | _ => none }
def storeRefusedRow : OpenClaim := { program := "ythldmddkfbijhaagreatdoor", sum := "51090c5cb86d0a7abfc667c2f289395d86155a6bad8f435df0d021b33660d0cd", func := "scrimshaw/scrimshawlaw21.StoreRefused", spec := "storeRefused", inPlace := ["slices.overlaps[int]"], unfollowed := true, recurses := true, named := ["math/bits.deBruijn64tab"], apart := false, laid := [("math/bits.deBruijn64tab", laid_math_bits_deBruijn64tab)] }
def StoreRefusedSaid : Prop := storeRefusedRow.holds Tryz.pinned (OpenSpec.ofChange storeRefusedSpec)

/-- ITS FALSE NEIGHBOUR: 'it returns false'. Refute it at one input. -/
def storeRefusedWrong : ChangeSpec := { name := "storeRefused", fn := fun _ => fun
  | [d1, d2, d3] => { results := [.lit (.bool false)], args := [d1, d2, d3] }
  | _ => none }
def StoreRefusedWrongFalsely : Prop := storeRefusedRow.holds Tryz.pinned (OpenSpec.ofChange storeRefusedWrong)

/-- 'scrimshawlaw22.ScriptAsks': WHATEVER THE INPUT: true; the input reads as it did. -/
def scriptAsksSpec : ChangeSpec := { name := "scriptAsks", fn := fun _ => fun
  | [d] => { results := [.lit (.bool true)], args := [d] }
  | _ => none }
def scriptAsksRow : OpenClaim := { program := "ythldmddkfbijhaagreatdoor", sum := "51090c5cb86d0a7abfc667c2f289395d86155a6bad8f435df0d021b33660d0cd", func := "scrimshaw/scrimshawlaw22.ScriptAsks", spec := "scriptAsks", inPlace := ["internal/bytealg.MakeNoZero", "slices.overlaps[int]"], unfollowed := true, recurses := true, named := ["math/bits.deBruijn64tab"], apart := false, laid := [("math/bits.deBruijn64tab", laid_math_bits_deBruijn64tab)] }
def ScriptAsksSaid : Prop := scriptAsksRow.holds Tryz.pinned (OpenSpec.ofChange scriptAsksSpec)

/-- ITS FALSE NEIGHBOUR: 'it returns false'. Refute it at one input. -/
def scriptAsksWrong : ChangeSpec := { name := "scriptAsks", fn := fun _ => fun
  | [d] => { results := [.lit (.bool false)], args := [d] }
  | _ => none }
def ScriptAsksWrongFalsely : Prop := scriptAsksRow.holds Tryz.pinned (OpenSpec.ofChange scriptAsksWrong)

/- THE SECOND FORM. 'bulk': how many values and letters a reading holds, each counted each time it is reached (what is shared counts as often as it is met; a slice's spare places count too). A statement '..UptoSaid' is the law's where the arguments, and the package variables that the reading takes, are together of bulk at most 1048576: NARROWER than '..Said'. Prove '..Said' where nothing that the law and all that it calls make is longer than what came in: it says more and counts as full. Else prove '..UptoSaid'. A law counts once. -/
mutual
def uptoBulk {H : Type} : DataW H → Nat
  | .lit (.string bytes) => bytes.length + 1
  | .lit _ => 1
  | .nil => 1
  | .ptr d => uptoBulk d + 1
  | .slice elems spare => uptoBulkAll elems + uptoBulkAll spare + 1
  | .agg parts => uptoBulkAll parts + 1
  | .iface _ d => uptoBulk d + 1
  | .map entries => uptoBulkEntries entries + 1
  | .held _ => 1
def uptoBulkAll {H : Type} : List (DataW H) → Nat
  | [] => 0
  | d :: r => uptoBulk d + uptoBulkAll r
def uptoBulkEntries {H : Type} : List (Lit × DataW H) → Nat
  | [] => 0
  | x :: r => uptoBulkEntry x + uptoBulkEntries r
def uptoBulkEntry {H : Type} : Lit × DataW H → Nat
  | (.string bytes, d) => bytes.length + uptoBulk d + 1
  | (_, d) => uptoBulk d + 1
 end
def uptoSmall : (H : Type) → List (DataW H) → Bool := fun _ ds => decide (uptoBulkAll ds ≤ 1048576)
def OpenSpec.upto (s : _root_.Go.ChangeSpec) : _root_.Go.OpenSpec := { _root_.Go.OpenSpec.ofChange s with cond := some uptoSmall }

/-- 'scrimshawlaw19.SnapBack', WHERE WHAT IT READS IS OF BULK AT MOST 1048576: true; the input reads as it did. -/
def snapBackUptoRow : OpenClaim := { program := "ythldmddkfbijhaagreatdoor", sum := "51090c5cb86d0a7abfc667c2f289395d86155a6bad8f435df0d021b33660d0cd", func := "scrimshaw/scrimshawlaw19.SnapBack", spec := "snapBack", inPlace := ["slices.overlaps[int]"], unfollowed := true, recurses := true, named := ["math/bits.deBruijn64tab"], apart := false, laid := [("math/bits.deBruijn64tab", laid_math_bits_deBruijn64tab)], narrowed := true }
def SnapBackUptoSaid : Prop := snapBackUptoRow.holds Tryz.pinned (OpenSpec.upto snapBackSpec)

/-- 'scrimshawlaw21.StoreReloads', WHERE WHAT IT READS IS OF BULK AT MOST 1048576: true; the input reads as it did. -/
def storeReloadsUptoRow : OpenClaim := { program := "ythldmddkfbijhaagreatdoor", sum := "51090c5cb86d0a7abfc667c2f289395d86155a6bad8f435df0d021b33660d0cd", func := "scrimshaw/scrimshawlaw21.StoreReloads", spec := "storeReloads", inPlace := ["slices.overlaps[int]"], unfollowed := true, recurses := true, named := ["math/bits.deBruijn64tab"], apart := false, laid := [("math/bits.deBruijn64tab", laid_math_bits_deBruijn64tab)], narrowed := true }
def StoreReloadsUptoSaid : Prop := storeReloadsUptoRow.holds Tryz.pinned (OpenSpec.upto storeReloadsSpec)

/-- 'scrimshawlaw21.StorePlays', WHERE WHAT IT READS IS OF BULK AT MOST 1048576: true; the input reads as it did. -/
def storePlaysUptoRow : OpenClaim := { program := "ythldmddkfbijhaagreatdoor", sum := "51090c5cb86d0a7abfc667c2f289395d86155a6bad8f435df0d021b33660d0cd", func := "scrimshaw/scrimshawlaw21.StorePlays", spec := "storePlays", inPlace := ["slices.overlaps[int]"], unfollowed := true, recurses := true, named := ["math/bits.deBruijn64tab"], apart := false, laid := [("math/bits.deBruijn64tab", laid_math_bits_deBruijn64tab)], narrowed := true }
def StorePlaysUptoSaid : Prop := storePlaysUptoRow.holds Tryz.pinned (OpenSpec.upto storePlaysSpec)

/-- 'scrimshawlaw21.StoreLoads', WHERE WHAT IT READS IS OF BULK AT MOST 1048576: true; the input reads as it did. -/
def storeLoadsUptoRow : OpenClaim := { program := "ythldmddkfbijhaagreatdoor", sum := "51090c5cb86d0a7abfc667c2f289395d86155a6bad8f435df0d021b33660d0cd", func := "scrimshaw/scrimshawlaw21.StoreLoads", spec := "storeLoads", inPlace := ["slices.overlaps[int]"], unfollowed := true, recurses := true, named := ["math/bits.deBruijn64tab"], apart := false, laid := [("math/bits.deBruijn64tab", laid_math_bits_deBruijn64tab)], narrowed := true }
def StoreLoadsUptoSaid : Prop := storeLoadsUptoRow.holds Tryz.pinned (OpenSpec.upto storeLoadsSpec)

/-- 'scrimshawlaw21.StoreRefused', WHERE WHAT IT READS IS OF BULK AT MOST 1048576: true; the input reads as it did. -/
def storeRefusedUptoRow : OpenClaim := { program := "ythldmddkfbijhaagreatdoor", sum := "51090c5cb86d0a7abfc667c2f289395d86155a6bad8f435df0d021b33660d0cd", func := "scrimshaw/scrimshawlaw21.StoreRefused", spec := "storeRefused", inPlace := ["slices.overlaps[int]"], unfollowed := true, recurses := true, named := ["math/bits.deBruijn64tab"], apart := false, laid := [("math/bits.deBruijn64tab", laid_math_bits_deBruijn64tab)], narrowed := true }
def StoreRefusedUptoSaid : Prop := storeRefusedUptoRow.holds Tryz.pinned (OpenSpec.upto storeRefusedSpec)

/-- 'scrimshawlaw22.ScriptAsks', WHERE WHAT IT READS IS OF BULK AT MOST 1048576: true; the input reads as it did. -/
def scriptAsksUptoRow : OpenClaim := { program := "ythldmddkfbijhaagreatdoor", sum := "51090c5cb86d0a7abfc667c2f289395d86155a6bad8f435df0d021b33660d0cd", func := "scrimshaw/scrimshawlaw22.ScriptAsks", spec := "scriptAsks", inPlace := ["internal/bytealg.MakeNoZero", "slices.overlaps[int]"], unfollowed := true, recurses := true, named := ["math/bits.deBruijn64tab"], apart := false, laid := [("math/bits.deBruijn64tab", laid_math_bits_deBruijn64tab)], narrowed := true }
def ScriptAsksUptoSaid : Prop := scriptAsksUptoRow.holds Tryz.pinned (OpenSpec.upto scriptAsksSpec)

end Rows
end Go.Proofs.YthldmddkfbijhaaGreatDoor
