/-
  No cell of these rows narrows 'for every input' (looked for: loops, veiled, ifaces, maps, wideKeys, modest, calm, conditions, laid).
  DERIVED. THE GIVEN ROWS OF THIS SEAT. 5 by the template 'for every input the law returns true; each argument reads behind the call as it read before'; 0 by the template 'total and deterministic' (their statements: YtmebhlopmgfobaaTotals.lean).
  GIVEN WITH THE SEED: the statements are not yours to turn. If you find one false, say at which input.
  Laid BY PROGRAM, IN A SANDBOX (cutbox-rows.mjs): the forced cells as the released guide's own fill.sh prints them over the translation 730ddee1a53ef06e… (all of the seat's roots in one cut). By AI agents, Wed Nov 11 2026. No macro, syntax, notation, axiom, sorry.
-/
import Derived.Test.YtmebhlopmgfobaaChecked
import GoSem.Claim
import GoSem.ClaimJoined
import GoSem.ClaimMapViews
import Derived.JoinedTies
import Derived.KernelRfl
namespace Go.Proofs.Ytmebhlopmgfobaa
/- THE CELL 'sum', in the pinned program and in every row, IS THE sha256 OF THE DUMP (.gsa) THAT YtmebhlopmgfobaaProg.lean LOADS. Nothing in Lean hashes anything: it is a label: what it is worth is what the hold of that sum in a sandbox is worth. -/
noncomputable def Try.pinned : Pinned := { name := "ytmebhlopmgfobaa", sum := "730ddee1a53ef06e4a08638580f621770f45e0b6f167db17886ac2ca6bb137f8", checked := Try.checked }
namespace Rows
def none {H : Type} : Left H := { results := [], args := [] }

/-- 'scrimshawlaw20.ModelSets': WHATEVER THE INPUT: true; the input reads as it did. -/
def modelSetsSpec : ChangeSpec := { name := "modelSets", fn := fun _ => fun
  | [d1, d2, d3] => { results := [.lit (.bool true)], args := [d1, d2, d3] }
  | _ => none }
def modelSetsRow : OpenClaim := { program := "ytmebhlopmgfobaa", sum := "730ddee1a53ef06e4a08638580f621770f45e0b6f167db17886ac2ca6bb137f8", func := "scrimshaw/scrimshawlaw20.ModelSets", spec := "modelSets", apart := false }
def ModelSetsSaid : Prop := modelSetsRow.holds Try.pinned (OpenSpec.ofChange modelSetsSpec)

/-- ITS FALSE NEIGHBOUR: 'it returns false'. Refute it at one input. -/
def modelSetsWrong : ChangeSpec := { name := "modelSets", fn := fun _ => fun
  | [d1, d2, d3] => { results := [.lit (.bool false)], args := [d1, d2, d3] }
  | _ => none }
def ModelSetsWrongFalsely : Prop := modelSetsRow.holds Try.pinned (OpenSpec.ofChange modelSetsWrong)

/-- 'scrimshawlaw20.ModelPlays': WHATEVER THE INPUT: true; the input reads as it did. -/
def modelPlaysSpec : ChangeSpec := { name := "modelPlays", fn := fun _ => fun
  | [d1, d2] => { results := [.lit (.bool true)], args := [d1, d2] }
  | _ => none }
def modelPlaysRow : OpenClaim := { program := "ytmebhlopmgfobaa", sum := "730ddee1a53ef06e4a08638580f621770f45e0b6f167db17886ac2ca6bb137f8", func := "scrimshaw/scrimshawlaw20.ModelPlays", spec := "modelPlays", apart := false }
def ModelPlaysSaid : Prop := modelPlaysRow.holds Try.pinned (OpenSpec.ofChange modelPlaysSpec)

/-- ITS FALSE NEIGHBOUR: 'it returns false'. Refute it at one input. -/
def modelPlaysWrong : ChangeSpec := { name := "modelPlays", fn := fun _ => fun
  | [d1, d2] => { results := [.lit (.bool false)], args := [d1, d2] }
  | _ => none }
def ModelPlaysWrongFalsely : Prop := modelPlaysRow.holds Try.pinned (OpenSpec.ofChange modelPlaysWrong)

/-- 'scrimshawlaw20.ModelSplices': WHATEVER THE INPUT: true; the input reads as it did. -/
def modelSplicesSpec : ChangeSpec := { name := "modelSplices", fn := fun _ => fun
  | [d1, d2, d3] => { results := [.lit (.bool true)], args := [d1, d2, d3] }
  | _ => none }
def modelSplicesRow : OpenClaim := { program := "ytmebhlopmgfobaa", sum := "730ddee1a53ef06e4a08638580f621770f45e0b6f167db17886ac2ca6bb137f8", func := "scrimshaw/scrimshawlaw20.ModelSplices", spec := "modelSplices", apart := false }
def ModelSplicesSaid : Prop := modelSplicesRow.holds Try.pinned (OpenSpec.ofChange modelSplicesSpec)

/-- ITS FALSE NEIGHBOUR: 'it returns false'. Refute it at one input. -/
def modelSplicesWrong : ChangeSpec := { name := "modelSplices", fn := fun _ => fun
  | [d1, d2, d3] => { results := [.lit (.bool false)], args := [d1, d2, d3] }
  | _ => none }
def ModelSplicesWrongFalsely : Prop := modelSplicesRow.holds Try.pinned (OpenSpec.ofChange modelSplicesWrong)

/-- 'scrimshawlaw20.ModelLocates': WHATEVER THE INPUT: true; the input reads as it did. -/
def modelLocatesSpec : ChangeSpec := { name := "modelLocates", fn := fun _ => fun
  | [d1, d2] => { results := [.lit (.bool true)], args := [d1, d2] }
  | _ => none }
def modelLocatesRow : OpenClaim := { program := "ytmebhlopmgfobaa", sum := "730ddee1a53ef06e4a08638580f621770f45e0b6f167db17886ac2ca6bb137f8", func := "scrimshaw/scrimshawlaw20.ModelLocates", spec := "modelLocates", apart := false }
def ModelLocatesSaid : Prop := modelLocatesRow.holds Try.pinned (OpenSpec.ofChange modelLocatesSpec)

/-- ITS FALSE NEIGHBOUR: 'it returns false'. Refute it at one input. -/
def modelLocatesWrong : ChangeSpec := { name := "modelLocates", fn := fun _ => fun
  | [d1, d2] => { results := [.lit (.bool false)], args := [d1, d2] }
  | _ => none }
def ModelLocatesWrongFalsely : Prop := modelLocatesRow.holds Try.pinned (OpenSpec.ofChange modelLocatesWrong)

/-- 'scrimshawlaw20.ModelFull': WHATEVER THE INPUT: true; the input reads as it did. -/
def modelFullSpec : ChangeSpec := { name := "modelFull", fn := fun _ => fun
  | [d1, d2, d3] => { results := [.lit (.bool true)], args := [d1, d2, d3] }
  | _ => none }
def modelFullRow : OpenClaim := { program := "ytmebhlopmgfobaa", sum := "730ddee1a53ef06e4a08638580f621770f45e0b6f167db17886ac2ca6bb137f8", func := "scrimshaw/scrimshawlaw20.ModelFull", spec := "modelFull", apart := false }
def ModelFullSaid : Prop := modelFullRow.holds Try.pinned (OpenSpec.ofChange modelFullSpec)

/-- ITS FALSE NEIGHBOUR: 'it returns false'. Refute it at one input. -/
def modelFullWrong : ChangeSpec := { name := "modelFull", fn := fun _ => fun
  | [d1, d2, d3] => { results := [.lit (.bool false)], args := [d1, d2, d3] }
  | _ => none }
def ModelFullWrongFalsely : Prop := modelFullRow.holds Try.pinned (OpenSpec.ofChange modelFullWrong)

/- THE SECOND FORM. 'bulk': how many values and letters a reading holds, each counted each time it is reached (what is shared counts as often as it is met; a slice's spare places count too). A statement '..UptoSaid' is the law's where the arguments, and the package variables that the reading takes, are together of bulk at most 1048576: NARROWER than '..Said'. Prove '..Said' where nothing that the law and all that it calls make is longer than what came in: it says more and counts as full. Else prove '..UptoSaid'. A law counts once. -/
mutual
def uptoBulk {H : Type} : DataW H → Nat
  | .lit (.string bytes) => bytes.length + 1
  | .lit _ => 1
  | .nil => 1
  | .ptr d => uptoBulk d + 1
  | .slice elems spare => uptoBulkAll elems + uptoBulkAll spare + 1
  | .agg parts => uptoBulkAll parts + 1
  | .iface _ d => uptoBulk d + 1
  | .map entries => uptoBulkEntries entries + 1
  | .held _ => 1
def uptoBulkAll {H : Type} : List (DataW H) → Nat
  | [] => 0
  | d :: r => uptoBulk d + uptoBulkAll r
def uptoBulkEntries {H : Type} : List (Lit × DataW H) → Nat
  | [] => 0
  | x :: r => uptoBulkEntry x + uptoBulkEntries r
def uptoBulkEntry {H : Type} : Lit × DataW H → Nat
  | (.string bytes, d) => bytes.length + uptoBulk d + 1
  | (_, d) => uptoBulk d + 1
 end
def uptoSmall : (H : Type) → List (DataW H) → Bool := fun _ ds => decide (uptoBulkAll ds ≤ 1048576)
def OpenSpec.upto (s : _root_.Go.ChangeSpec) : _root_.Go.OpenSpec := { _root_.Go.OpenSpec.ofChange s with cond := some uptoSmall }

/-- 'scrimshawlaw20.ModelSets', WHERE WHAT IT READS IS OF BULK AT MOST 1048576: true; the input reads as it did. -/
def modelSetsUptoRow : OpenClaim := { program := "ytmebhlopmgfobaa", sum := "730ddee1a53ef06e4a08638580f621770f45e0b6f167db17886ac2ca6bb137f8", func := "scrimshaw/scrimshawlaw20.ModelSets", spec := "modelSets", apart := false, narrowed := true }
def ModelSetsUptoSaid : Prop := modelSetsUptoRow.holds Try.pinned (OpenSpec.upto modelSetsSpec)

/-- 'scrimshawlaw20.ModelPlays', WHERE WHAT IT READS IS OF BULK AT MOST 1048576: true; the input reads as it did. -/
def modelPlaysUptoRow : OpenClaim := { program := "ytmebhlopmgfobaa", sum := "730ddee1a53ef06e4a08638580f621770f45e0b6f167db17886ac2ca6bb137f8", func := "scrimshaw/scrimshawlaw20.ModelPlays", spec := "modelPlays", apart := false, narrowed := true }
def ModelPlaysUptoSaid : Prop := modelPlaysUptoRow.holds Try.pinned (OpenSpec.upto modelPlaysSpec)

/-- 'scrimshawlaw20.ModelSplices', WHERE WHAT IT READS IS OF BULK AT MOST 1048576: true; the input reads as it did. -/
def modelSplicesUptoRow : OpenClaim := { program := "ytmebhlopmgfobaa", sum := "730ddee1a53ef06e4a08638580f621770f45e0b6f167db17886ac2ca6bb137f8", func := "scrimshaw/scrimshawlaw20.ModelSplices", spec := "modelSplices", apart := false, narrowed := true }
def ModelSplicesUptoSaid : Prop := modelSplicesUptoRow.holds Try.pinned (OpenSpec.upto modelSplicesSpec)

/-- 'scrimshawlaw20.ModelLocates', WHERE WHAT IT READS IS OF BULK AT MOST 1048576: true; the input reads as it did. -/
def modelLocatesUptoRow : OpenClaim := { program := "ytmebhlopmgfobaa", sum := "730ddee1a53ef06e4a08638580f621770f45e0b6f167db17886ac2ca6bb137f8", func := "scrimshaw/scrimshawlaw20.ModelLocates", spec := "modelLocates", apart := false, narrowed := true }
def ModelLocatesUptoSaid : Prop := modelLocatesUptoRow.holds Try.pinned (OpenSpec.upto modelLocatesSpec)

/-- 'scrimshawlaw20.ModelFull', WHERE WHAT IT READS IS OF BULK AT MOST 1048576: true; the input reads as it did. -/
def modelFullUptoRow : OpenClaim := { program := "ytmebhlopmgfobaa", sum := "730ddee1a53ef06e4a08638580f621770f45e0b6f167db17886ac2ca6bb137f8", func := "scrimshaw/scrimshawlaw20.ModelFull", spec := "modelFull", apart := false, narrowed := true }
def ModelFullUptoSaid : Prop := modelFullUptoRow.holds Try.pinned (OpenSpec.upto modelFullSpec)

end Rows
end Go.Proofs.Ytmebhlopmgfobaa
