/-
  No cell of these rows narrows 'for every input' (looked for: loops, veiled, ifaces, maps, wideKeys, modest, calm, conditions, laid).
  DERIVED. THE GIVEN ROWS OF THIS SEAT. 4 by the template 'for every input the law returns true; each argument reads behind the call as it read before'; 0 by the template 'total and deterministic' (their statements: YtdpknieiigibfaaTotals.lean).
  GIVEN WITH THE SEED: the statements are not yours to turn. If you find one false, say at which input.
  Laid BY PROGRAM, IN A SANDBOX (cutbox-rows.mjs): the forced cells as the released guide's own fill.sh prints them over the translation 7636888dd8c0891a… (all of the seat's roots in one cut). By AI agents, Wed Nov 11 2026. No macro, syntax, notation, axiom, sorry.
-/
import Derived.Test.YtdpknieiigibfaaChecked
import GoSem.Claim
import GoSem.ClaimJoined
import GoSem.ClaimMapViews
import Derived.JoinedTies
import Derived.KernelRfl
namespace Go.Proofs.Ytdpknieiigibfaa
/- THE CELL 'sum', in the pinned program and in every row, IS THE sha256 OF THE DUMP (.gsa) THAT YtdpknieiigibfaaProg.lean LOADS. Nothing in Lean hashes anything: it is a label: what it is worth is what the hold of that sum in a sandbox is worth. -/
noncomputable def Try.pinned : Pinned := { name := "ytdpknieiigibfaa", sum := "7636888dd8c0891a66405e6cccf7777c476a7542cd29e3127b8d61ef658040fb", checked := Try.checked }
namespace Rows
def none {H : Type} : Left H := { results := [], args := [] }

/-- 'scrimshawlaw13.FindParts': WHATEVER THE INPUT: true; the input reads as it did. -/
def findPartsSpec : ChangeSpec := { name := "findParts", fn := fun _ => fun
  | [d1, d2, d3, d4] => { results := [.lit (.bool true)], args := [d1, d2, d3, d4] }
  | _ => none }
def findPartsRow : OpenClaim := { program := "ytdpknieiigibfaa", sum := "7636888dd8c0891a66405e6cccf7777c476a7542cd29e3127b8d61ef658040fb", func := "scrimshaw/scrimshawlaw13.FindParts", spec := "findParts", inPlace := ["slices.overlaps[int]"], unfollowed := true, recurses := true, apart := false }
def FindPartsSaid : Prop := findPartsRow.holds Try.pinned (OpenSpec.ofChange findPartsSpec)

/-- ITS FALSE NEIGHBOUR: 'it returns false'. Refute it at one input. -/
def findPartsWrong : ChangeSpec := { name := "findParts", fn := fun _ => fun
  | [d1, d2, d3, d4] => { results := [.lit (.bool false)], args := [d1, d2, d3, d4] }
  | _ => none }
def FindPartsWrongFalsely : Prop := findPartsRow.holds Try.pinned (OpenSpec.ofChange findPartsWrong)

/-- 'scrimshawlaw13.FindAsks': WHATEVER THE INPUT: true; the input reads as it did. -/
def findAsksSpec : ChangeSpec := { name := "findAsks", fn := fun _ => fun
  | [d1, d2, d3, d4] => { results := [.lit (.bool true)], args := [d1, d2, d3, d4] }
  | _ => none }
def findAsksRow : OpenClaim := { program := "ytdpknieiigibfaa", sum := "7636888dd8c0891a66405e6cccf7777c476a7542cd29e3127b8d61ef658040fb", func := "scrimshaw/scrimshawlaw13.FindAsks", spec := "findAsks", inPlace := ["slices.overlaps[int]"], unfollowed := true, recurses := true, apart := false }
def FindAsksSaid : Prop := findAsksRow.holds Try.pinned (OpenSpec.ofChange findAsksSpec)

/-- ITS FALSE NEIGHBOUR: 'it returns false'. Refute it at one input. -/
def findAsksWrong : ChangeSpec := { name := "findAsks", fn := fun _ => fun
  | [d1, d2, d3, d4] => { results := [.lit (.bool false)], args := [d1, d2, d3, d4] }
  | _ => none }
def FindAsksWrongFalsely : Prop := findAsksRow.holds Try.pinned (OpenSpec.ofChange findAsksWrong)

/-- 'scrimshawlaw13.FindLonger': WHATEVER THE INPUT: true; the input reads as it did. -/
def findLongerSpec : ChangeSpec := { name := "findLonger", fn := fun _ => fun
  | [d1, d2, d3] => { results := [.lit (.bool true)], args := [d1, d2, d3] }
  | _ => none }
def findLongerRow : OpenClaim := { program := "ytdpknieiigibfaa", sum := "7636888dd8c0891a66405e6cccf7777c476a7542cd29e3127b8d61ef658040fb", func := "scrimshaw/scrimshawlaw13.FindLonger", spec := "findLonger", inPlace := ["slices.overlaps[int]"], unfollowed := true, recurses := true, apart := false }
def FindLongerSaid : Prop := findLongerRow.holds Try.pinned (OpenSpec.ofChange findLongerSpec)

/-- ITS FALSE NEIGHBOUR: 'it returns false'. Refute it at one input. -/
def findLongerWrong : ChangeSpec := { name := "findLonger", fn := fun _ => fun
  | [d1, d2, d3] => { results := [.lit (.bool false)], args := [d1, d2, d3] }
  | _ => none }
def FindLongerWrongFalsely : Prop := findLongerRow.holds Try.pinned (OpenSpec.ofChange findLongerWrong)

/-- 'scrimshawlaw13.FindOverlaps': WHATEVER THE INPUT: true; the input reads as it did. -/
def findOverlapsSpec : ChangeSpec := { name := "findOverlaps", fn := fun _ => fun
  | [d1, d2, d3] => { results := [.lit (.bool true)], args := [d1, d2, d3] }
  | _ => none }
def findOverlapsRow : OpenClaim := { program := "ytdpknieiigibfaa", sum := "7636888dd8c0891a66405e6cccf7777c476a7542cd29e3127b8d61ef658040fb", func := "scrimshaw/scrimshawlaw13.FindOverlaps", spec := "findOverlaps", inPlace := ["slices.overlaps[int]"], unfollowed := true, recurses := true, apart := false }
def FindOverlapsSaid : Prop := findOverlapsRow.holds Try.pinned (OpenSpec.ofChange findOverlapsSpec)

/-- ITS FALSE NEIGHBOUR: 'it returns false'. Refute it at one input. -/
def findOverlapsWrong : ChangeSpec := { name := "findOverlaps", fn := fun _ => fun
  | [d1, d2, d3] => { results := [.lit (.bool false)], args := [d1, d2, d3] }
  | _ => none }
def FindOverlapsWrongFalsely : Prop := findOverlapsRow.holds Try.pinned (OpenSpec.ofChange findOverlapsWrong)

/- THE SECOND FORM. 'bulk': how many values and letters a reading holds, each counted each time it is reached (what is shared counts as often as it is met; a slice's spare places count too). A statement '..UptoSaid' is the law's where the arguments, and the package variables that the reading takes, are together of bulk at most 1048576: NARROWER than '..Said'. Prove '..Said' where nothing that the law and all that it calls make is longer than what came in: it says more and counts as full. Else prove '..UptoSaid'. A law counts once. -/
mutual
def uptoBulk {H : Type} : DataW H → Nat
  | .lit (.string bytes) => bytes.length + 1
  | .lit _ => 1
  | .nil => 1
  | .ptr d => uptoBulk d + 1
  | .slice elems spare => uptoBulkAll elems + uptoBulkAll spare + 1
  | .agg parts => uptoBulkAll parts + 1
  | .iface _ d => uptoBulk d + 1
  | .map entries => uptoBulkEntries entries + 1
  | .held _ => 1
def uptoBulkAll {H : Type} : List (DataW H) → Nat
  | [] => 0
  | d :: r => uptoBulk d + uptoBulkAll r
def uptoBulkEntries {H : Type} : List (Lit × DataW H) → Nat
  | [] => 0
  | x :: r => uptoBulkEntry x + uptoBulkEntries r
def uptoBulkEntry {H : Type} : Lit × DataW H → Nat
  | (.string bytes, d) => bytes.length + uptoBulk d + 1
  | (_, d) => uptoBulk d + 1
 end
def uptoSmall : (H : Type) → List (DataW H) → Bool := fun _ ds => decide (uptoBulkAll ds ≤ 1048576)
def OpenSpec.upto (s : _root_.Go.ChangeSpec) : _root_.Go.OpenSpec := { _root_.Go.OpenSpec.ofChange s with cond := some uptoSmall }

/-- 'scrimshawlaw13.FindParts', WHERE WHAT IT READS IS OF BULK AT MOST 1048576: true; the input reads as it did. -/
def findPartsUptoRow : OpenClaim := { program := "ytdpknieiigibfaa", sum := "7636888dd8c0891a66405e6cccf7777c476a7542cd29e3127b8d61ef658040fb", func := "scrimshaw/scrimshawlaw13.FindParts", spec := "findParts", inPlace := ["slices.overlaps[int]"], unfollowed := true, recurses := true, apart := false, narrowed := true }
def FindPartsUptoSaid : Prop := findPartsUptoRow.holds Try.pinned (OpenSpec.upto findPartsSpec)

/-- 'scrimshawlaw13.FindAsks', WHERE WHAT IT READS IS OF BULK AT MOST 1048576: true; the input reads as it did. -/
def findAsksUptoRow : OpenClaim := { program := "ytdpknieiigibfaa", sum := "7636888dd8c0891a66405e6cccf7777c476a7542cd29e3127b8d61ef658040fb", func := "scrimshaw/scrimshawlaw13.FindAsks", spec := "findAsks", inPlace := ["slices.overlaps[int]"], unfollowed := true, recurses := true, apart := false, narrowed := true }
def FindAsksUptoSaid : Prop := findAsksUptoRow.holds Try.pinned (OpenSpec.upto findAsksSpec)

/-- 'scrimshawlaw13.FindLonger', WHERE WHAT IT READS IS OF BULK AT MOST 1048576: true; the input reads as it did. -/
def findLongerUptoRow : OpenClaim := { program := "ytdpknieiigibfaa", sum := "7636888dd8c0891a66405e6cccf7777c476a7542cd29e3127b8d61ef658040fb", func := "scrimshaw/scrimshawlaw13.FindLonger", spec := "findLonger", inPlace := ["slices.overlaps[int]"], unfollowed := true, recurses := true, apart := false, narrowed := true }
def FindLongerUptoSaid : Prop := findLongerUptoRow.holds Try.pinned (OpenSpec.upto findLongerSpec)

/-- 'scrimshawlaw13.FindOverlaps', WHERE WHAT IT READS IS OF BULK AT MOST 1048576: true; the input reads as it did. -/
def findOverlapsUptoRow : OpenClaim := { program := "ytdpknieiigibfaa", sum := "7636888dd8c0891a66405e6cccf7777c476a7542cd29e3127b8d61ef658040fb", func := "scrimshaw/scrimshawlaw13.FindOverlaps", spec := "findOverlaps", inPlace := ["slices.overlaps[int]"], unfollowed := true, recurses := true, apart := false, narrowed := true }
def FindOverlapsUptoSaid : Prop := findOverlapsUptoRow.holds Try.pinned (OpenSpec.upto findOverlapsSpec)

end Rows
end Go.Proofs.Ytdpknieiigibfaa
