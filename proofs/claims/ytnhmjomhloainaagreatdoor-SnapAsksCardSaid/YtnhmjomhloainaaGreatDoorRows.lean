/-
  NARROWER THAN 'FOR EVERY INPUT', by the rows' own cells (each row's printed sentence says how): SnapSame: laid · SnapAsks: laid · SnapBack: laid · StoreSame: laid · StoreReloads: laid · StorePlays: laid · StoreLoads: laid · StoreRefused: laid · ScriptAsks: laid · ScriptRuns: laid · ScriptParts: laid · TopScripts: laid.
  DERIVED. THE GIVEN ROWS OF THIS SEAT. 12 by the template 'for every input the law returns true; each argument reads behind the call as it read before'; 0 by the template 'total and deterministic' (their statements: YtnhmjomhloainaaGreatDoorTotals.lean).
  GIVEN WITH THE SEED: the statements are not yours to turn. If you find one false, say at which input.
  Laid BY PROGRAM, IN A SANDBOX (cutbox-rows.mjs): the forced cells as the released guide's own fill.sh prints them over the translation 3979415142506546… (all of the seat's roots in one cut). By AI agents, Wed Nov 11 2026. No macro, syntax, notation, axiom, sorry.
-/
import Derived.Test.YtnhmjomhloainaaGreatDoorChecked
import GoSem.Claim
import GoSem.ClaimJoined
import GoSem.ClaimMapViews
import Derived.JoinedTies
import Derived.KernelRfl
namespace Go.Proofs.YtnhmjomhloainaaGreatDoor
/- THE CELL 'sum', in the pinned program and in every row, IS THE sha256 OF THE DUMP (.gsa) THAT YtnhmjomhloainaaGreatDoorProg.lean LOADS. Nothing in Lean hashes anything: it is a label: what it is worth is what the hold of that sum in a sandbox is worth. -/
noncomputable def Tryz.pinned : Pinned := { name := "ytnhmjomhloainaagreatdoor", sum := "3979415142506546fa0aa9b82ae3f520abc10e8ee54aeff3e9ca4a1a2761caef", checked := Tryz.checked }
namespace Rows
def none {H : Type} : Left H := { results := [], args := [] }

/- WHAT THE LISTED PACKAGE-LEVEL VARIABLES READ AS WHEN THE CALL BEGINS. Each datum BY PROGRAM (the guide's laid-datum.mjs) off the statement by which the dump's own 'gosem.cut.vars' lays the variable. In a bare row this is a premise. The card (YtnhmjomhloainaaGreatDoorCards.lean) ties it to the program's text. -/
def laid_math_bits_deBruijn64tab {H : Type} : DataW H := .agg [.lit (.int .u8 0), .lit (.int .u8 1), .lit (.int .u8 56), .lit (.int .u8 2), .lit (.int .u8 57), .lit (.int .u8 49), .lit (.int .u8 28), .lit (.int .u8 3), .lit (.int .u8 61), .lit (.int .u8 58), .lit (.int .u8 42), .lit (.int .u8 50), .lit (.int .u8 38), .lit (.int .u8 29), .lit (.int .u8 17), .lit (.int .u8 4), .lit (.int .u8 62), .lit (.int .u8 47), .lit (.int .u8 59), .lit (.int .u8 36), .lit (.int .u8 45), .lit (.int .u8 43), .lit (.int .u8 51), .lit (.int .u8 22), .lit (.int .u8 53), .lit (.int .u8 39), .lit (.int .u8 33), .lit (.int .u8 30), .lit (.int .u8 24), .lit (.int .u8 18), .lit (.int .u8 12), .lit (.int .u8 5), .lit (.int .u8 63), .lit (.int .u8 55), .lit (.int .u8 48), .lit (.int .u8 27), .lit (.int .u8 60), .lit (.int .u8 41), .lit (.int .u8 37), .lit (.int .u8 16), .lit (.int .u8 46), .lit (.int .u8 35), .lit (.int .u8 44), .lit (.int .u8 21), .lit (.int .u8 52), .lit (.int .u8 32), .lit (.int .u8 23), .lit (.int .u8 11), .lit (.int .u8 54), .lit (.int .u8 26), .lit (.int .u8 40), .lit (.int .u8 15), .lit (.int .u8 34), .lit (.int .u8 20), .lit (.int .u8 31), .lit (.int .u8 10), .lit (.int .u8 25), .lit (.int .u8 14), .lit (.int .u8 19), .lit (.int .u8 9), .lit (.int .u8 13), .lit (.int .u8 8), .lit (.int .u8 7), .lit (.int .u8 6)]

/-- 'scrimshawlaw19.SnapSame': WHATEVER THE INPUT: true; the input reads as it did. -/
def snapSameSpec : ChangeSpec := { name := "snapSame", fn := fun _ => fun
  | [d1, d2, d3, d4] => { results := [.lit (.bool true)], args := [d1, d2, d3, d4] }
  | _ => none }
def snapSameRow : OpenClaim := { program := "ytnhmjomhloainaagreatdoor", sum := "3979415142506546fa0aa9b82ae3f520abc10e8ee54aeff3e9ca4a1a2761caef", func := "scrimshaw/scrimshawlaw19.SnapSame", spec := "snapSame", inPlace := ["slices.overlaps[int]"], unfollowed := true, recurses := true, named := ["math/bits.deBruijn64tab"], apart := false, laid := [("math/bits.deBruijn64tab", laid_math_bits_deBruijn64tab)] }
def SnapSameSaid : Prop := snapSameRow.holds Tryz.pinned (OpenSpec.ofChange snapSameSpec)

/-- ITS FALSE NEIGHBOUR: 'it returns false'. Refute it at one input. -/
def snapSameWrong : ChangeSpec := { name := "snapSame", fn := fun _ => fun
  | [d1, d2, d3, d4] => { results := [.lit (.bool false)], args := [d1, d2, d3, d4] }
  | _ => none }
def SnapSameWrongFalsely : Prop := snapSameRow.holds Tryz.pinned (OpenSpec.ofChange snapSameWrong)

/-- 'scrimshawlaw19.SnapAsks': WHATEVER THE INPUT: true; the input reads as it did. -/
def snapAsksSpec : ChangeSpec := { name := "snapAsks", fn := fun _ => fun
  | [d1, d2, d3, d4, d5] => { results := [.lit (.bool true)], args := [d1, d2, d3, d4, d5] }
  | _ => none }
def snapAsksRow : OpenClaim := { program := "ytnhmjomhloainaagreatdoor", sum := "3979415142506546fa0aa9b82ae3f520abc10e8ee54aeff3e9ca4a1a2761caef", func := "scrimshaw/scrimshawlaw19.SnapAsks", spec := "snapAsks", inPlace := ["slices.overlaps[int]"], unfollowed := true, recurses := true, named := ["math/bits.deBruijn64tab"], apart := false, laid := [("math/bits.deBruijn64tab", laid_math_bits_deBruijn64tab)] }
def SnapAsksSaid : Prop := snapAsksRow.holds Tryz.pinned (OpenSpec.ofChange snapAsksSpec)

/-- ITS FALSE NEIGHBOUR: 'it returns false'. Refute it at one input. -/
def snapAsksWrong : ChangeSpec := { name := "snapAsks", fn := fun _ => fun
  | [d1, d2, d3, d4, d5] => { results := [.lit (.bool false)], args := [d1, d2, d3, d4, d5] }
  | _ => none }
def SnapAsksWrongFalsely : Prop := snapAsksRow.holds Tryz.pinned (OpenSpec.ofChange snapAsksWrong)

/-- 'scrimshawlaw19.SnapBack': WHATEVER THE INPUT: true; the input reads as it did. -/
def snapBackSpec : ChangeSpec := { name := "snapBack", fn := fun _ => fun
  | [d1, d2, d3, d4, d5] => { results := [.lit (.bool true)], args := [d1, d2, d3, d4, d5] }
  | _ => none }
def snapBackRow : OpenClaim := { program := "ytnhmjomhloainaagreatdoor", sum := "3979415142506546fa0aa9b82ae3f520abc10e8ee54aeff3e9ca4a1a2761caef", func := "scrimshaw/scrimshawlaw19.SnapBack", spec := "snapBack", inPlace := ["slices.overlaps[int]"], unfollowed := true, recurses := true, named := ["math/bits.deBruijn64tab"], apart := false, laid := [("math/bits.deBruijn64tab", laid_math_bits_deBruijn64tab)] }
def SnapBackSaid : Prop := snapBackRow.holds Tryz.pinned (OpenSpec.ofChange snapBackSpec)

/-- ITS FALSE NEIGHBOUR: 'it returns false'. Refute it at one input. -/
def snapBackWrong : ChangeSpec := { name := "snapBack", fn := fun _ => fun
  | [d1, d2, d3, d4, d5] => { results := [.lit (.bool false)], args := [d1, d2, d3, d4, d5] }
  | _ => none }
def SnapBackWrongFalsely : Prop := snapBackRow.holds Tryz.pinned (OpenSpec.ofChange snapBackWrong)

/-- 'scrimshawlaw21.StoreSame': WHATEVER THE INPUT: true; the input reads as it did. -/
def storeSameSpec : ChangeSpec := { name := "storeSame", fn := fun _ => fun
  | [d1, d2, d3] => { results := [.lit (.bool true)], args := [d1, d2, d3] }
  | _ => none }
def storeSameRow : OpenClaim := { program := "ytnhmjomhloainaagreatdoor", sum := "3979415142506546fa0aa9b82ae3f520abc10e8ee54aeff3e9ca4a1a2761caef", func := "scrimshaw/scrimshawlaw21.StoreSame", spec := "storeSame", inPlace := ["slices.overlaps[int]"], unfollowed := true, recurses := true, named := ["math/bits.deBruijn64tab"], apart := false, laid := [("math/bits.deBruijn64tab", laid_math_bits_deBruijn64tab)] }
def StoreSameSaid : Prop := storeSameRow.holds Tryz.pinned (OpenSpec.ofChange storeSameSpec)

/-- ITS FALSE NEIGHBOUR: 'it returns false'. Refute it at one input. -/
def storeSameWrong : ChangeSpec := { name := "storeSame", fn := fun _ => fun
  | [d1, d2, d3] => { results := [.lit (.bool false)], args := [d1, d2, d3] }
  | _ => none }
def StoreSameWrongFalsely : Prop := storeSameRow.holds Tryz.pinned (OpenSpec.ofChange storeSameWrong)

/-- 'scrimshawlaw21.StoreReloads': WHATEVER THE INPUT: true; the input reads as it did. -/
def storeReloadsSpec : ChangeSpec := { name := "storeReloads", fn := fun _ => fun
  | [d1, d2] => { results := [.lit (.bool true)], args := [d1, d2] }
  | _ => none }
def storeReloadsRow : OpenClaim := { program := "ytnhmjomhloainaagreatdoor", sum := "3979415142506546fa0aa9b82ae3f520abc10e8ee54aeff3e9ca4a1a2761caef", func := "scrimshaw/scrimshawlaw21.StoreReloads", spec := "storeReloads", inPlace := ["slices.overlaps[int]"], unfollowed := true, recurses := true, named := ["math/bits.deBruijn64tab"], apart := false, laid := [("math/bits.deBruijn64tab", laid_math_bits_deBruijn64tab)] }
def StoreReloadsSaid : Prop := storeReloadsRow.holds Tryz.pinned (OpenSpec.ofChange storeReloadsSpec)

/-- ITS FALSE NEIGHBOUR: 'it returns false'. Refute it at one input. -/
def storeReloadsWrong : ChangeSpec := { name := "storeReloads", fn := fun _ => fun
  | [d1, d2] => { results := [.lit (.bool false)], args := [d1, d2] }
  | _ => none }
def StoreReloadsWrongFalsely : Prop := storeReloadsRow.holds Tryz.pinned (OpenSpec.ofChange storeReloadsWrong)

/-- 'scrimshawlaw21.StorePlays': WHATEVER THE INPUT: true; the input reads as it did. -/
def storePlaysSpec : ChangeSpec := { name := "storePlays", fn := fun _ => fun
  | [d1, d2, d3] => { results := [.lit (.bool true)], args := [d1, d2, d3] }
  | _ => none }
def storePlaysRow : OpenClaim := { program := "ytnhmjomhloainaagreatdoor", sum := "3979415142506546fa0aa9b82ae3f520abc10e8ee54aeff3e9ca4a1a2761caef", func := "scrimshaw/scrimshawlaw21.StorePlays", spec := "storePlays", inPlace := ["slices.overlaps[int]"], unfollowed := true, recurses := true, named := ["math/bits.deBruijn64tab"], apart := false, laid := [("math/bits.deBruijn64tab", laid_math_bits_deBruijn64tab)] }
def StorePlaysSaid : Prop := storePlaysRow.holds Tryz.pinned (OpenSpec.ofChange storePlaysSpec)

/-- ITS FALSE NEIGHBOUR: 'it returns false'. Refute it at one input. -/
def storePlaysWrong : ChangeSpec := { name := "storePlays", fn := fun _ => fun
  | [d1, d2, d3] => { results := [.lit (.bool false)], args := [d1, d2, d3] }
  | _ => none }
def StorePlaysWrongFalsely : Prop := storePlaysRow.holds Tryz.pinned (OpenSpec.ofChange storePlaysWrong)

/-- 'scrimshawlaw21.StoreLoads': WHATEVER THE INPUT: true; the input reads as it did. -/
def storeLoadsSpec : ChangeSpec := { name := "storeLoads", fn := fun _ => fun
  | [d1, d2, d3] => { results := [.lit (.bool true)], args := [d1, d2, d3] }
  | _ => none }
def storeLoadsRow : OpenClaim := { program := "ytnhmjomhloainaagreatdoor", sum := "3979415142506546fa0aa9b82ae3f520abc10e8ee54aeff3e9ca4a1a2761caef", func := "scrimshaw/scrimshawlaw21.StoreLoads", spec := "storeLoads", inPlace := ["slices.overlaps[int]"], unfollowed := true, recurses := true, named := ["math/bits.deBruijn64tab"], apart := false, laid := [("math/bits.deBruijn64tab", laid_math_bits_deBruijn64tab)] }
def StoreLoadsSaid : Prop := storeLoadsRow.holds Tryz.pinned (OpenSpec.ofChange storeLoadsSpec)

/-- ITS FALSE NEIGHBOUR: 'it returns false'. Refute it at one input. -/
def storeLoadsWrong : ChangeSpec := { name := "storeLoads", fn := fun _ => fun
  | [d1, d2, d3] => { results := [.lit (.bool false)], args := [d1, d2, d3] }
  | _ => none }
def StoreLoadsWrongFalsely : Prop := storeLoadsRow.holds Tryz.pinned (OpenSpec.ofChange storeLoadsWrong)

/-- 'scrimshawlaw21.StoreRefused': WHATEVER THE INPUT: true; the input reads as it did. -/
def storeRefusedSpec : ChangeSpec := { name := "storeRefused", fn := fun _ => fun
  | [d1, d2, d3] => { results := [.lit (.bool true)], args := [d1, d2, d3] }
  | _ => none }
def storeRefusedRow : OpenClaim := { program := "ytnhmjomhloainaagreatdoor", sum := "3979415142506546fa0aa9b82ae3f520abc10e8ee54aeff3e9ca4a1a2761caef", func := "scrimshaw/scrimshawlaw21.StoreRefused", spec := "storeRefused", inPlace := ["slices.overlaps[int]"], unfollowed := true, recurses := true, named := ["math/bits.deBruijn64tab"], apart := false, laid := [("math/bits.deBruijn64tab", laid_math_bits_deBruijn64tab)] }
def StoreRefusedSaid : Prop := storeRefusedRow.holds Tryz.pinned (OpenSpec.ofChange storeRefusedSpec)

/-- ITS FALSE NEIGHBOUR: 'it returns false'. Refute it at one input. -/
def storeRefusedWrong : ChangeSpec := { name := "storeRefused", fn := fun _ => fun
  | [d1, d2, d3] => { results := [.lit (.bool false)], args := [d1, d2, d3] }
  | _ => none }
def StoreRefusedWrongFalsely : Prop := storeRefusedRow.holds Tryz.pinned (OpenSpec.ofChange storeRefusedWrong)

/-- 'scrimshawlaw22.ScriptAsks': WHATEVER THE INPUT: true; the input reads as it did. -/
def scriptAsksSpec : ChangeSpec := { name := "scriptAsks", fn := fun _ => fun
  | [d] => { results := [.lit (.bool true)], args := [d] }
  | _ => none }
def scriptAsksRow : OpenClaim := { program := "ytnhmjomhloainaagreatdoor", sum := "3979415142506546fa0aa9b82ae3f520abc10e8ee54aeff3e9ca4a1a2761caef", func := "scrimshaw/scrimshawlaw22.ScriptAsks", spec := "scriptAsks", inPlace := ["internal/bytealg.MakeNoZero", "slices.overlaps[int]"], unfollowed := true, recurses := true, named := ["math/bits.deBruijn64tab"], apart := false, laid := [("math/bits.deBruijn64tab", laid_math_bits_deBruijn64tab)] }
def ScriptAsksSaid : Prop := scriptAsksRow.holds Tryz.pinned (OpenSpec.ofChange scriptAsksSpec)

/-- ITS FALSE NEIGHBOUR: 'it returns false'. Refute it at one input. -/
def scriptAsksWrong : ChangeSpec := { name := "scriptAsks", fn := fun _ => fun
  | [d] => { results := [.lit (.bool false)], args := [d] }
  | _ => none }
def ScriptAsksWrongFalsely : Prop := scriptAsksRow.holds Tryz.pinned (OpenSpec.ofChange scriptAsksWrong)

/-- 'scrimshawlaw22.ScriptRuns': WHATEVER THE INPUT: true; the input reads as it did. -/
def scriptRunsSpec : ChangeSpec := { name := "scriptRuns", fn := fun _ => fun
  | [d1, d2, d3] => { results := [.lit (.bool true)], args := [d1, d2, d3] }
  | _ => none }
def scriptRunsRow : OpenClaim := { program := "ytnhmjomhloainaagreatdoor", sum := "3979415142506546fa0aa9b82ae3f520abc10e8ee54aeff3e9ca4a1a2761caef", func := "scrimshaw/scrimshawlaw22.ScriptRuns", spec := "scriptRuns", inPlace := ["internal/bytealg.MakeNoZero", "slices.overlaps[int]"], unfollowed := true, recurses := true, named := ["math/bits.deBruijn64tab"], apart := false, laid := [("math/bits.deBruijn64tab", laid_math_bits_deBruijn64tab)] }
def ScriptRunsSaid : Prop := scriptRunsRow.holds Tryz.pinned (OpenSpec.ofChange scriptRunsSpec)

/-- ITS FALSE NEIGHBOUR: 'it returns false'. Refute it at one input. -/
def scriptRunsWrong : ChangeSpec := { name := "scriptRuns", fn := fun _ => fun
  | [d1, d2, d3] => { results := [.lit (.bool false)], args := [d1, d2, d3] }
  | _ => none }
def ScriptRunsWrongFalsely : Prop := scriptRunsRow.holds Tryz.pinned (OpenSpec.ofChange scriptRunsWrong)

/-- 'scrimshawlaw22.ScriptParts': WHATEVER THE INPUT: true; the input reads as it did. -/
def scriptPartsSpec : ChangeSpec := { name := "scriptParts", fn := fun _ => fun
  | [d1, d2] => { results := [.lit (.bool true)], args := [d1, d2] }
  | _ => none }
def scriptPartsRow : OpenClaim := { program := "ytnhmjomhloainaagreatdoor", sum := "3979415142506546fa0aa9b82ae3f520abc10e8ee54aeff3e9ca4a1a2761caef", func := "scrimshaw/scrimshawlaw22.ScriptParts", spec := "scriptParts", inPlace := ["internal/bytealg.MakeNoZero", "slices.overlaps[int]"], unfollowed := true, recurses := true, named := ["math/bits.deBruijn64tab"], apart := false, laid := [("math/bits.deBruijn64tab", laid_math_bits_deBruijn64tab)] }
def ScriptPartsSaid : Prop := scriptPartsRow.holds Tryz.pinned (OpenSpec.ofChange scriptPartsSpec)

/-- ITS FALSE NEIGHBOUR: 'it returns false'. Refute it at one input. -/
def scriptPartsWrong : ChangeSpec := { name := "scriptParts", fn := fun _ => fun
  | [d1, d2] => { results := [.lit (.bool false)], args := [d1, d2] }
  | _ => none }
def ScriptPartsWrongFalsely : Prop := scriptPartsRow.holds Tryz.pinned (OpenSpec.ofChange scriptPartsWrong)

/-- 'scrimshawtop.TopScripts': WHATEVER THE INPUT: true; the input reads as it did. -/
def topScriptsSpec : ChangeSpec := { name := "topScripts", fn := fun _ => fun
  | [d1, d2, d3] => { results := [.lit (.bool true)], args := [d1, d2, d3] }
  | _ => none }
def topScriptsRow : OpenClaim := { program := "ytnhmjomhloainaagreatdoor", sum := "3979415142506546fa0aa9b82ae3f520abc10e8ee54aeff3e9ca4a1a2761caef", func := "scrimshaw/scrimshawtop.TopScripts", spec := "topScripts", inPlace := ["slices.overlaps[int]", "internal/bytealg.MakeNoZero"], unfollowed := true, recurses := true, named := ["math/bits.deBruijn64tab"], apart := false, laid := [("math/bits.deBruijn64tab", laid_math_bits_deBruijn64tab)] }
def TopScriptsSaid : Prop := topScriptsRow.holds Tryz.pinned (OpenSpec.ofChange topScriptsSpec)

/-- ITS FALSE NEIGHBOUR: 'it returns false'. Refute it at one input. -/
def topScriptsWrong : ChangeSpec := { name := "topScripts", fn := fun _ => fun
  | [d1, d2, d3] => { results := [.lit (.bool false)], args := [d1, d2, d3] }
  | _ => none }
def TopScriptsWrongFalsely : Prop := topScriptsRow.holds Tryz.pinned (OpenSpec.ofChange topScriptsWrong)

/- THE SECOND FORM. 'bulk': how many values and letters a reading holds, each counted each time it is reached (what is shared counts as often as it is met; a slice's spare places count too). A statement '..UptoSaid' is the law's where the arguments, and the package variables that the reading takes, are together of bulk at most 1048576: NARROWER than '..Said'. Prove '..Said' where nothing that the law and all that it calls make is longer than what came in: it says more and counts as full. Else prove '..UptoSaid'. A law counts once. -/
mutual
def uptoBulk {H : Type} : DataW H → Nat
  | .lit (.string bytes) => bytes.length + 1
  | .lit _ => 1
  | .nil => 1
  | .ptr d => uptoBulk d + 1
  | .slice elems spare => uptoBulkAll elems + uptoBulkAll spare + 1
  | .agg parts => uptoBulkAll parts + 1
  | .iface _ d => uptoBulk d + 1
  | .map entries => uptoBulkEntries entries + 1
  | .held _ => 1
def uptoBulkAll {H : Type} : List (DataW H) → Nat
  | [] => 0
  | d :: r => uptoBulk d + uptoBulkAll r
def uptoBulkEntries {H : Type} : List (Lit × DataW H) → Nat
  | [] => 0
  | x :: r => uptoBulkEntry x + uptoBulkEntries r
def uptoBulkEntry {H : Type} : Lit × DataW H → Nat
  | (.string bytes, d) => bytes.length + uptoBulk d + 1
  | (_, d) => uptoBulk d + 1
 end
def uptoSmall : (H : Type) → List (DataW H) → Bool := fun _ ds => decide (uptoBulkAll ds ≤ 1048576)
def OpenSpec.upto (s : _root_.Go.ChangeSpec) : _root_.Go.OpenSpec := { _root_.Go.OpenSpec.ofChange s with cond := some uptoSmall }

/-- 'scrimshawlaw19.SnapSame', WHERE WHAT IT READS IS OF BULK AT MOST 1048576: true; the input reads as it did. -/
def snapSameUptoRow : OpenClaim := { program := "ytnhmjomhloainaagreatdoor", sum := "3979415142506546fa0aa9b82ae3f520abc10e8ee54aeff3e9ca4a1a2761caef", func := "scrimshaw/scrimshawlaw19.SnapSame", spec := "snapSame", inPlace := ["slices.overlaps[int]"], unfollowed := true, recurses := true, named := ["math/bits.deBruijn64tab"], apart := false, laid := [("math/bits.deBruijn64tab", laid_math_bits_deBruijn64tab)], narrowed := true }
def SnapSameUptoSaid : Prop := snapSameUptoRow.holds Tryz.pinned (OpenSpec.upto snapSameSpec)

/-- 'scrimshawlaw19.SnapAsks', WHERE WHAT IT READS IS OF BULK AT MOST 1048576: true; the input reads as it did. -/
def snapAsksUptoRow : OpenClaim := { program := "ytnhmjomhloainaagreatdoor", sum := "3979415142506546fa0aa9b82ae3f520abc10e8ee54aeff3e9ca4a1a2761caef", func := "scrimshaw/scrimshawlaw19.SnapAsks", spec := "snapAsks", inPlace := ["slices.overlaps[int]"], unfollowed := true, recurses := true, named := ["math/bits.deBruijn64tab"], apart := false, laid := [("math/bits.deBruijn64tab", laid_math_bits_deBruijn64tab)], narrowed := true }
def SnapAsksUptoSaid : Prop := snapAsksUptoRow.holds Tryz.pinned (OpenSpec.upto snapAsksSpec)

/-- 'scrimshawlaw19.SnapBack', WHERE WHAT IT READS IS OF BULK AT MOST 1048576: true; the input reads as it did. -/
def snapBackUptoRow : OpenClaim := { program := "ytnhmjomhloainaagreatdoor", sum := "3979415142506546fa0aa9b82ae3f520abc10e8ee54aeff3e9ca4a1a2761caef", func := "scrimshaw/scrimshawlaw19.SnapBack", spec := "snapBack", inPlace := ["slices.overlaps[int]"], unfollowed := true, recurses := true, named := ["math/bits.deBruijn64tab"], apart := false, laid := [("math/bits.deBruijn64tab", laid_math_bits_deBruijn64tab)], narrowed := true }
def SnapBackUptoSaid : Prop := snapBackUptoRow.holds Tryz.pinned (OpenSpec.upto snapBackSpec)

/-- 'scrimshawlaw21.StoreSame', WHERE WHAT IT READS IS OF BULK AT MOST 1048576: true; the input reads as it did. -/
def storeSameUptoRow : OpenClaim := { program := "ytnhmjomhloainaagreatdoor", sum := "3979415142506546fa0aa9b82ae3f520abc10e8ee54aeff3e9ca4a1a2761caef", func := "scrimshaw/scrimshawlaw21.StoreSame", spec := "storeSame", inPlace := ["slices.overlaps[int]"], unfollowed := true, recurses := true, named := ["math/bits.deBruijn64tab"], apart := false, laid := [("math/bits.deBruijn64tab", laid_math_bits_deBruijn64tab)], narrowed := true }
def StoreSameUptoSaid : Prop := storeSameUptoRow.holds Tryz.pinned (OpenSpec.upto storeSameSpec)

/-- 'scrimshawlaw21.StoreReloads', WHERE WHAT IT READS IS OF BULK AT MOST 1048576: true; the input reads as it did. -/
def storeReloadsUptoRow : OpenClaim := { program := "ytnhmjomhloainaagreatdoor", sum := "3979415142506546fa0aa9b82ae3f520abc10e8ee54aeff3e9ca4a1a2761caef", func := "scrimshaw/scrimshawlaw21.StoreReloads", spec := "storeReloads", inPlace := ["slices.overlaps[int]"], unfollowed := true, recurses := true, named := ["math/bits.deBruijn64tab"], apart := false, laid := [("math/bits.deBruijn64tab", laid_math_bits_deBruijn64tab)], narrowed := true }
def StoreReloadsUptoSaid : Prop := storeReloadsUptoRow.holds Tryz.pinned (OpenSpec.upto storeReloadsSpec)

/-- 'scrimshawlaw21.StorePlays', WHERE WHAT IT READS IS OF BULK AT MOST 1048576: true; the input reads as it did. -/
def storePlaysUptoRow : OpenClaim := { program := "ytnhmjomhloainaagreatdoor", sum := "3979415142506546fa0aa9b82ae3f520abc10e8ee54aeff3e9ca4a1a2761caef", func := "scrimshaw/scrimshawlaw21.StorePlays", spec := "storePlays", inPlace := ["slices.overlaps[int]"], unfollowed := true, recurses := true, named := ["math/bits.deBruijn64tab"], apart := false, laid := [("math/bits.deBruijn64tab", laid_math_bits_deBruijn64tab)], narrowed := true }
def StorePlaysUptoSaid : Prop := storePlaysUptoRow.holds Tryz.pinned (OpenSpec.upto storePlaysSpec)

/-- 'scrimshawlaw21.StoreLoads', WHERE WHAT IT READS IS OF BULK AT MOST 1048576: true; the input reads as it did. -/
def storeLoadsUptoRow : OpenClaim := { program := "ytnhmjomhloainaagreatdoor", sum := "3979415142506546fa0aa9b82ae3f520abc10e8ee54aeff3e9ca4a1a2761caef", func := "scrimshaw/scrimshawlaw21.StoreLoads", spec := "storeLoads", inPlace := ["slices.overlaps[int]"], unfollowed := true, recurses := true, named := ["math/bits.deBruijn64tab"], apart := false, laid := [("math/bits.deBruijn64tab", laid_math_bits_deBruijn64tab)], narrowed := true }
def StoreLoadsUptoSaid : Prop := storeLoadsUptoRow.holds Tryz.pinned (OpenSpec.upto storeLoadsSpec)

/-- 'scrimshawlaw21.StoreRefused', WHERE WHAT IT READS IS OF BULK AT MOST 1048576: true; the input reads as it did. -/
def storeRefusedUptoRow : OpenClaim := { program := "ytnhmjomhloainaagreatdoor", sum := "3979415142506546fa0aa9b82ae3f520abc10e8ee54aeff3e9ca4a1a2761caef", func := "scrimshaw/scrimshawlaw21.StoreRefused", spec := "storeRefused", inPlace := ["slices.overlaps[int]"], unfollowed := true, recurses := true, named := ["math/bits.deBruijn64tab"], apart := false, laid := [("math/bits.deBruijn64tab", laid_math_bits_deBruijn64tab)], narrowed := true }
def StoreRefusedUptoSaid : Prop := storeRefusedUptoRow.holds Tryz.pinned (OpenSpec.upto storeRefusedSpec)

/-- 'scrimshawlaw22.ScriptAsks', WHERE WHAT IT READS IS OF BULK AT MOST 1048576: true; the input reads as it did. -/
def scriptAsksUptoRow : OpenClaim := { program := "ytnhmjomhloainaagreatdoor", sum := "3979415142506546fa0aa9b82ae3f520abc10e8ee54aeff3e9ca4a1a2761caef", func := "scrimshaw/scrimshawlaw22.ScriptAsks", spec := "scriptAsks", inPlace := ["internal/bytealg.MakeNoZero", "slices.overlaps[int]"], unfollowed := true, recurses := true, named := ["math/bits.deBruijn64tab"], apart := false, laid := [("math/bits.deBruijn64tab", laid_math_bits_deBruijn64tab)], narrowed := true }
def ScriptAsksUptoSaid : Prop := scriptAsksUptoRow.holds Tryz.pinned (OpenSpec.upto scriptAsksSpec)

/-- 'scrimshawlaw22.ScriptRuns', WHERE WHAT IT READS IS OF BULK AT MOST 1048576: true; the input reads as it did. -/
def scriptRunsUptoRow : OpenClaim := { program := "ytnhmjomhloainaagreatdoor", sum := "3979415142506546fa0aa9b82ae3f520abc10e8ee54aeff3e9ca4a1a2761caef", func := "scrimshaw/scrimshawlaw22.ScriptRuns", spec := "scriptRuns", inPlace := ["internal/bytealg.MakeNoZero", "slices.overlaps[int]"], unfollowed := true, recurses := true, named := ["math/bits.deBruijn64tab"], apart := false, laid := [("math/bits.deBruijn64tab", laid_math_bits_deBruijn64tab)], narrowed := true }
def ScriptRunsUptoSaid : Prop := scriptRunsUptoRow.holds Tryz.pinned (OpenSpec.upto scriptRunsSpec)

/-- 'scrimshawlaw22.ScriptParts', WHERE WHAT IT READS IS OF BULK AT MOST 1048576: true; the input reads as it did. -/
def scriptPartsUptoRow : OpenClaim := { program := "ytnhmjomhloainaagreatdoor", sum := "3979415142506546fa0aa9b82ae3f520abc10e8ee54aeff3e9ca4a1a2761caef", func := "scrimshaw/scrimshawlaw22.ScriptParts", spec := "scriptParts", inPlace := ["internal/bytealg.MakeNoZero", "slices.overlaps[int]"], unfollowed := true, recurses := true, named := ["math/bits.deBruijn64tab"], apart := false, laid := [("math/bits.deBruijn64tab", laid_math_bits_deBruijn64tab)], narrowed := true }
def ScriptPartsUptoSaid : Prop := scriptPartsUptoRow.holds Tryz.pinned (OpenSpec.upto scriptPartsSpec)

/-- 'scrimshawtop.TopScripts', WHERE WHAT IT READS IS OF BULK AT MOST 1048576: true; the input reads as it did. -/
def topScriptsUptoRow : OpenClaim := { program := "ytnhmjomhloainaagreatdoor", sum := "3979415142506546fa0aa9b82ae3f520abc10e8ee54aeff3e9ca4a1a2761caef", func := "scrimshaw/scrimshawtop.TopScripts", spec := "topScripts", inPlace := ["slices.overlaps[int]", "internal/bytealg.MakeNoZero"], unfollowed := true, recurses := true, named := ["math/bits.deBruijn64tab"], apart := false, laid := [("math/bits.deBruijn64tab", laid_math_bits_deBruijn64tab)], narrowed := true }
def TopScriptsUptoSaid : Prop := topScriptsUptoRow.holds Tryz.pinned (OpenSpec.upto topScriptsSpec)

end Rows
end Go.Proofs.YtnhmjomhloainaaGreatDoor
