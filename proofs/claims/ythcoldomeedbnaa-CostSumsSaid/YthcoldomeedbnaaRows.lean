/-
  No cell of these rows narrows 'for every input' (looked for: loops, veiled, ifaces, maps, wideKeys, modest, calm, conditions, laid).
  DERIVED. THE GIVEN ROWS OF THIS SEAT. 14 by the template 'for every input the law returns true; each argument reads behind the call as it read before'; 0 by the template 'total and deterministic' (their statements: YthcoldomeedbnaaTotals.lean).
  GIVEN WITH THE SEED: the statements are not yours to turn. If you find one false, say at which input.
  Laid BY PROGRAM, IN A SANDBOX (cutbox-rows.mjs): the forced cells as the released guide's own fill.sh prints them over the translation 411bb3da2906826d… (all of the seat's roots in one cut). By AI agents, Wed Nov 11 2026. No macro, syntax, notation, axiom, sorry.
-/
import Derived.Test.YthcoldomeedbnaaChecked
import GoSem.Claim
import GoSem.ClaimJoined
import GoSem.ClaimMapViews
import Derived.JoinedTies
import Derived.KernelRfl
namespace Go.Proofs.Ythcoldomeedbnaa
/- THE CELL 'sum', in the pinned program and in every row, IS THE sha256 OF THE DUMP (.gsa) THAT YthcoldomeedbnaaProg.lean LOADS. Nothing in Lean hashes anything: it is a label: what it is worth is what the hold of that sum in a sandbox is worth. -/
noncomputable def Try.pinned : Pinned := { name := "ythcoldomeedbnaa", sum := "411bb3da2906826d536164e3cc96cc8b52066c21dc8d4a1124973b8b33342bad", checked := Try.checked }
namespace Rows
def none {H : Type} : Left H := { results := [], args := [] }

/-- 'scrimshawlaw23.CostGrows': WHATEVER THE INPUT: true; the input reads as it did. -/
def costGrowsSpec : ChangeSpec := { name := "costGrows", fn := fun _ => fun
  | [d1, d2] => { results := [.lit (.bool true)], args := [d1, d2] }
  | _ => none }
def costGrowsRow : OpenClaim := { program := "ythcoldomeedbnaa", sum := "411bb3da2906826d536164e3cc96cc8b52066c21dc8d4a1124973b8b33342bad", func := "scrimshaw/scrimshawlaw23.CostGrows", spec := "costGrows", apart := false }
def CostGrowsSaid : Prop := costGrowsRow.holds Try.pinned (OpenSpec.ofChange costGrowsSpec)

/-- ITS FALSE NEIGHBOUR: 'it returns false'. Refute it at one input. -/
def costGrowsWrong : ChangeSpec := { name := "costGrows", fn := fun _ => fun
  | [d1, d2] => { results := [.lit (.bool false)], args := [d1, d2] }
  | _ => none }
def CostGrowsWrongFalsely : Prop := costGrowsRow.holds Try.pinned (OpenSpec.ofChange costGrowsWrong)

/-- 'scrimshawlaw23.CostSums': WHATEVER THE INPUT: true; the input reads as it did. -/
def costSumsSpec : ChangeSpec := { name := "costSums", fn := fun _ => fun
  | [d] => { results := [.lit (.bool true)], args := [d] }
  | _ => none }
def costSumsRow : OpenClaim := { program := "ythcoldomeedbnaa", sum := "411bb3da2906826d536164e3cc96cc8b52066c21dc8d4a1124973b8b33342bad", func := "scrimshaw/scrimshawlaw23.CostSums", spec := "costSums", apart := false }
def CostSumsSaid : Prop := costSumsRow.holds Try.pinned (OpenSpec.ofChange costSumsSpec)

/-- ITS FALSE NEIGHBOUR: 'it returns false'. Refute it at one input. -/
def costSumsWrong : ChangeSpec := { name := "costSums", fn := fun _ => fun
  | [d] => { results := [.lit (.bool false)], args := [d] }
  | _ => none }
def CostSumsWrongFalsely : Prop := costSumsRow.holds Try.pinned (OpenSpec.ofChange costSumsWrong)

/-- 'scrimshawlaw23.CostHolds': WHATEVER THE INPUT: true; the input reads as it did. -/
def costHoldsSpec : ChangeSpec := { name := "costHolds", fn := fun _ => fun
  | [d] => { results := [.lit (.bool true)], args := [d] }
  | _ => none }
def costHoldsRow : OpenClaim := { program := "ythcoldomeedbnaa", sum := "411bb3da2906826d536164e3cc96cc8b52066c21dc8d4a1124973b8b33342bad", func := "scrimshaw/scrimshawlaw23.CostHolds", spec := "costHolds", apart := false }
def CostHoldsSaid : Prop := costHoldsRow.holds Try.pinned (OpenSpec.ofChange costHoldsSpec)

/-- ITS FALSE NEIGHBOUR: 'it returns false'. Refute it at one input. -/
def costHoldsWrong : ChangeSpec := { name := "costHolds", fn := fun _ => fun
  | [d] => { results := [.lit (.bool false)], args := [d] }
  | _ => none }
def CostHoldsWrongFalsely : Prop := costHoldsRow.holds Try.pinned (OpenSpec.ofChange costHoldsWrong)

/-- 'scrimshawlaw16.NumSizes': WHATEVER THE INPUT: true; the input reads as it did. -/
def numSizesSpec : ChangeSpec := { name := "numSizes", fn := fun _ => fun
  | [d] => { results := [.lit (.bool true)], args := [d] }
  | _ => none }
def numSizesRow : OpenClaim := { program := "ythcoldomeedbnaa", sum := "411bb3da2906826d536164e3cc96cc8b52066c21dc8d4a1124973b8b33342bad", func := "scrimshaw/scrimshawlaw16.NumSizes", spec := "numSizes", apart := false }
def NumSizesSaid : Prop := numSizesRow.holds Try.pinned (OpenSpec.ofChange numSizesSpec)

/-- ITS FALSE NEIGHBOUR: 'it returns false'. Refute it at one input. -/
def numSizesWrong : ChangeSpec := { name := "numSizes", fn := fun _ => fun
  | [d] => { results := [.lit (.bool false)], args := [d] }
  | _ => none }
def NumSizesWrongFalsely : Prop := numSizesRow.holds Try.pinned (OpenSpec.ofChange numSizesWrong)

/-- 'scrimshawlaw16.NumAsks': WHATEVER THE INPUT: true; the input reads as it did. -/
def numAsksSpec : ChangeSpec := { name := "numAsks", fn := fun _ => fun
  | [d1, d2, d3, d4, d5] => { results := [.lit (.bool true)], args := [d1, d2, d3, d4, d5] }
  | _ => none }
def numAsksRow : OpenClaim := { program := "ythcoldomeedbnaa", sum := "411bb3da2906826d536164e3cc96cc8b52066c21dc8d4a1124973b8b33342bad", func := "scrimshaw/scrimshawlaw16.NumAsks", spec := "numAsks", apart := false }
def NumAsksSaid : Prop := numAsksRow.holds Try.pinned (OpenSpec.ofChange numAsksSpec)

/-- ITS FALSE NEIGHBOUR: 'it returns false'. Refute it at one input. -/
def numAsksWrong : ChangeSpec := { name := "numAsks", fn := fun _ => fun
  | [d1, d2, d3, d4, d5] => { results := [.lit (.bool false)], args := [d1, d2, d3, d4, d5] }
  | _ => none }
def NumAsksWrongFalsely : Prop := numAsksRow.holds Try.pinned (OpenSpec.ofChange numAsksWrong)

/-- 'scrimshawlaw16.NumBack': WHATEVER THE INPUT: true; the input reads as it did. -/
def numBackSpec : ChangeSpec := { name := "numBack", fn := fun _ => fun
  | [d1, d2] => { results := [.lit (.bool true)], args := [d1, d2] }
  | _ => none }
def numBackRow : OpenClaim := { program := "ythcoldomeedbnaa", sum := "411bb3da2906826d536164e3cc96cc8b52066c21dc8d4a1124973b8b33342bad", func := "scrimshaw/scrimshawlaw16.NumBack", spec := "numBack", apart := false }
def NumBackSaid : Prop := numBackRow.holds Try.pinned (OpenSpec.ofChange numBackSpec)

/-- ITS FALSE NEIGHBOUR: 'it returns false'. Refute it at one input. -/
def numBackWrong : ChangeSpec := { name := "numBack", fn := fun _ => fun
  | [d1, d2] => { results := [.lit (.bool false)], args := [d1, d2] }
  | _ => none }
def NumBackWrongFalsely : Prop := numBackRow.holds Try.pinned (OpenSpec.ofChange numBackWrong)

/-- 'scrimshawlaw16.NumOrders': WHATEVER THE INPUT: true; the input reads as it did. -/
def numOrdersSpec : ChangeSpec := { name := "numOrders", fn := fun _ => fun
  | [d1, d2] => { results := [.lit (.bool true)], args := [d1, d2] }
  | _ => none }
def numOrdersRow : OpenClaim := { program := "ythcoldomeedbnaa", sum := "411bb3da2906826d536164e3cc96cc8b52066c21dc8d4a1124973b8b33342bad", func := "scrimshaw/scrimshawlaw16.NumOrders", spec := "numOrders", apart := false }
def NumOrdersSaid : Prop := numOrdersRow.holds Try.pinned (OpenSpec.ofChange numOrdersSpec)

/-- ITS FALSE NEIGHBOUR: 'it returns false'. Refute it at one input. -/
def numOrdersWrong : ChangeSpec := { name := "numOrders", fn := fun _ => fun
  | [d1, d2] => { results := [.lit (.bool false)], args := [d1, d2] }
  | _ => none }
def NumOrdersWrongFalsely : Prop := numOrdersRow.holds Try.pinned (OpenSpec.ofChange numOrdersWrong)

/-- 'scrimshawlaw16.NumFixed': WHATEVER THE INPUT: true; the input reads as it did. -/
def numFixedSpec : ChangeSpec := { name := "numFixed", fn := fun _ => fun
  | [d1, d2, d3] => { results := [.lit (.bool true)], args := [d1, d2, d3] }
  | _ => none }
def numFixedRow : OpenClaim := { program := "ythcoldomeedbnaa", sum := "411bb3da2906826d536164e3cc96cc8b52066c21dc8d4a1124973b8b33342bad", func := "scrimshaw/scrimshawlaw16.NumFixed", spec := "numFixed", apart := false }
def NumFixedSaid : Prop := numFixedRow.holds Try.pinned (OpenSpec.ofChange numFixedSpec)

/-- ITS FALSE NEIGHBOUR: 'it returns false'. Refute it at one input. -/
def numFixedWrong : ChangeSpec := { name := "numFixed", fn := fun _ => fun
  | [d1, d2, d3] => { results := [.lit (.bool false)], args := [d1, d2, d3] }
  | _ => none }
def NumFixedWrongFalsely : Prop := numFixedRow.holds Try.pinned (OpenSpec.ofChange numFixedWrong)

/-- 'scrimshawlaw16.NumLong': WHATEVER THE INPUT: true; the input reads as it did. -/
def numLongSpec : ChangeSpec := { name := "numLong", fn := fun _ => fun
  | [d1, d2] => { results := [.lit (.bool true)], args := [d1, d2] }
  | _ => none }
def numLongRow : OpenClaim := { program := "ythcoldomeedbnaa", sum := "411bb3da2906826d536164e3cc96cc8b52066c21dc8d4a1124973b8b33342bad", func := "scrimshaw/scrimshawlaw16.NumLong", spec := "numLong", apart := false }
def NumLongSaid : Prop := numLongRow.holds Try.pinned (OpenSpec.ofChange numLongSpec)

/-- ITS FALSE NEIGHBOUR: 'it returns false'. Refute it at one input. -/
def numLongWrong : ChangeSpec := { name := "numLong", fn := fun _ => fun
  | [d1, d2] => { results := [.lit (.bool false)], args := [d1, d2] }
  | _ => none }
def NumLongWrongFalsely : Prop := numLongRow.holds Try.pinned (OpenSpec.ofChange numLongWrong)

/-- 'scrimshawlaw18.RunMany': WHATEVER THE INPUT: true; the input reads as it did. -/
def runManySpec : ChangeSpec := { name := "runMany", fn := fun _ => fun
  | [d] => { results := [.lit (.bool true)], args := [d] }
  | _ => none }
def runManyRow : OpenClaim := { program := "ythcoldomeedbnaa", sum := "411bb3da2906826d536164e3cc96cc8b52066c21dc8d4a1124973b8b33342bad", func := "scrimshaw/scrimshawlaw18.RunMany", spec := "runMany", apart := false }
def RunManySaid : Prop := runManyRow.holds Try.pinned (OpenSpec.ofChange runManySpec)

/-- ITS FALSE NEIGHBOUR: 'it returns false'. Refute it at one input. -/
def runManyWrong : ChangeSpec := { name := "runMany", fn := fun _ => fun
  | [d] => { results := [.lit (.bool false)], args := [d] }
  | _ => none }
def RunManyWrongFalsely : Prop := runManyRow.holds Try.pinned (OpenSpec.ofChange runManyWrong)

/-- 'scrimshawlaw18.RunAsks': WHATEVER THE INPUT: true; the input reads as it did. -/
def runAsksSpec : ChangeSpec := { name := "runAsks", fn := fun _ => fun
  | [d1, d2, d3, d4, d5] => { results := [.lit (.bool true)], args := [d1, d2, d3, d4, d5] }
  | _ => none }
def runAsksRow : OpenClaim := { program := "ythcoldomeedbnaa", sum := "411bb3da2906826d536164e3cc96cc8b52066c21dc8d4a1124973b8b33342bad", func := "scrimshaw/scrimshawlaw18.RunAsks", spec := "runAsks", apart := false }
def RunAsksSaid : Prop := runAsksRow.holds Try.pinned (OpenSpec.ofChange runAsksSpec)

/-- ITS FALSE NEIGHBOUR: 'it returns false'. Refute it at one input. -/
def runAsksWrong : ChangeSpec := { name := "runAsks", fn := fun _ => fun
  | [d1, d2, d3, d4, d5] => { results := [.lit (.bool false)], args := [d1, d2, d3, d4, d5] }
  | _ => none }
def RunAsksWrongFalsely : Prop := runAsksRow.holds Try.pinned (OpenSpec.ofChange runAsksWrong)

/-- 'scrimshawlaw18.RunBack': WHATEVER THE INPUT: true; the input reads as it did. -/
def runBackSpec : ChangeSpec := { name := "runBack", fn := fun _ => fun
  | [d1, d2] => { results := [.lit (.bool true)], args := [d1, d2] }
  | _ => none }
def runBackRow : OpenClaim := { program := "ythcoldomeedbnaa", sum := "411bb3da2906826d536164e3cc96cc8b52066c21dc8d4a1124973b8b33342bad", func := "scrimshaw/scrimshawlaw18.RunBack", spec := "runBack", apart := false }
def RunBackSaid : Prop := runBackRow.holds Try.pinned (OpenSpec.ofChange runBackSpec)

/-- ITS FALSE NEIGHBOUR: 'it returns false'. Refute it at one input. -/
def runBackWrong : ChangeSpec := { name := "runBack", fn := fun _ => fun
  | [d1, d2] => { results := [.lit (.bool false)], args := [d1, d2] }
  | _ => none }
def RunBackWrongFalsely : Prop := runBackRow.holds Try.pinned (OpenSpec.ofChange runBackWrong)

/-- 'scrimshawlaw18.RunLong': WHATEVER THE INPUT: true; the input reads as it did. -/
def runLongSpec : ChangeSpec := { name := "runLong", fn := fun _ => fun
  | [d1, d2] => { results := [.lit (.bool true)], args := [d1, d2] }
  | _ => none }
def runLongRow : OpenClaim := { program := "ythcoldomeedbnaa", sum := "411bb3da2906826d536164e3cc96cc8b52066c21dc8d4a1124973b8b33342bad", func := "scrimshaw/scrimshawlaw18.RunLong", spec := "runLong", apart := false }
def RunLongSaid : Prop := runLongRow.holds Try.pinned (OpenSpec.ofChange runLongSpec)

/-- ITS FALSE NEIGHBOUR: 'it returns false'. Refute it at one input. -/
def runLongWrong : ChangeSpec := { name := "runLong", fn := fun _ => fun
  | [d1, d2] => { results := [.lit (.bool false)], args := [d1, d2] }
  | _ => none }
def RunLongWrongFalsely : Prop := runLongRow.holds Try.pinned (OpenSpec.ofChange runLongWrong)

/-- 'scrimshawlaw18.RunReads': WHATEVER THE INPUT: true; the input reads as it did. -/
def runReadsSpec : ChangeSpec := { name := "runReads", fn := fun _ => fun
  | [d] => { results := [.lit (.bool true)], args := [d] }
  | _ => none }
def runReadsRow : OpenClaim := { program := "ythcoldomeedbnaa", sum := "411bb3da2906826d536164e3cc96cc8b52066c21dc8d4a1124973b8b33342bad", func := "scrimshaw/scrimshawlaw18.RunReads", spec := "runReads", apart := false }
def RunReadsSaid : Prop := runReadsRow.holds Try.pinned (OpenSpec.ofChange runReadsSpec)

/-- ITS FALSE NEIGHBOUR: 'it returns false'. Refute it at one input. -/
def runReadsWrong : ChangeSpec := { name := "runReads", fn := fun _ => fun
  | [d] => { results := [.lit (.bool false)], args := [d] }
  | _ => none }
def RunReadsWrongFalsely : Prop := runReadsRow.holds Try.pinned (OpenSpec.ofChange runReadsWrong)

/- THE SECOND FORM. 'bulk': how many values and letters a reading holds, each counted each time it is reached (what is shared counts as often as it is met; a slice's spare places count too). A statement '..UptoSaid' is the law's where the arguments, and the package variables that the reading takes, are together of bulk at most 1048576: NARROWER than '..Said'. Prove '..Said' where nothing that the law and all that it calls make is longer than what came in: it says more and counts as full. Else prove '..UptoSaid'. A law counts once. -/
mutual
def uptoBulk {H : Type} : DataW H → Nat
  | .lit (.string bytes) => bytes.length + 1
  | .lit _ => 1
  | .nil => 1
  | .ptr d => uptoBulk d + 1
  | .slice elems spare => uptoBulkAll elems + uptoBulkAll spare + 1
  | .agg parts => uptoBulkAll parts + 1
  | .iface _ d => uptoBulk d + 1
  | .map entries => uptoBulkEntries entries + 1
  | .held _ => 1
def uptoBulkAll {H : Type} : List (DataW H) → Nat
  | [] => 0
  | d :: r => uptoBulk d + uptoBulkAll r
def uptoBulkEntries {H : Type} : List (Lit × DataW H) → Nat
  | [] => 0
  | x :: r => uptoBulkEntry x + uptoBulkEntries r
def uptoBulkEntry {H : Type} : Lit × DataW H → Nat
  | (.string bytes, d) => bytes.length + uptoBulk d + 1
  | (_, d) => uptoBulk d + 1
 end
def uptoSmall : (H : Type) → List (DataW H) → Bool := fun _ ds => decide (uptoBulkAll ds ≤ 1048576)
def OpenSpec.upto (s : _root_.Go.ChangeSpec) : _root_.Go.OpenSpec := { _root_.Go.OpenSpec.ofChange s with cond := some uptoSmall }

/-- 'scrimshawlaw23.CostGrows', WHERE WHAT IT READS IS OF BULK AT MOST 1048576: true; the input reads as it did. -/
def costGrowsUptoRow : OpenClaim := { program := "ythcoldomeedbnaa", sum := "411bb3da2906826d536164e3cc96cc8b52066c21dc8d4a1124973b8b33342bad", func := "scrimshaw/scrimshawlaw23.CostGrows", spec := "costGrows", apart := false, narrowed := true }
def CostGrowsUptoSaid : Prop := costGrowsUptoRow.holds Try.pinned (OpenSpec.upto costGrowsSpec)

/-- 'scrimshawlaw23.CostSums', WHERE WHAT IT READS IS OF BULK AT MOST 1048576: true; the input reads as it did. -/
def costSumsUptoRow : OpenClaim := { program := "ythcoldomeedbnaa", sum := "411bb3da2906826d536164e3cc96cc8b52066c21dc8d4a1124973b8b33342bad", func := "scrimshaw/scrimshawlaw23.CostSums", spec := "costSums", apart := false, narrowed := true }
def CostSumsUptoSaid : Prop := costSumsUptoRow.holds Try.pinned (OpenSpec.upto costSumsSpec)

/-- 'scrimshawlaw23.CostHolds', WHERE WHAT IT READS IS OF BULK AT MOST 1048576: true; the input reads as it did. -/
def costHoldsUptoRow : OpenClaim := { program := "ythcoldomeedbnaa", sum := "411bb3da2906826d536164e3cc96cc8b52066c21dc8d4a1124973b8b33342bad", func := "scrimshaw/scrimshawlaw23.CostHolds", spec := "costHolds", apart := false, narrowed := true }
def CostHoldsUptoSaid : Prop := costHoldsUptoRow.holds Try.pinned (OpenSpec.upto costHoldsSpec)

/-- 'scrimshawlaw16.NumSizes', WHERE WHAT IT READS IS OF BULK AT MOST 1048576: true; the input reads as it did. -/
def numSizesUptoRow : OpenClaim := { program := "ythcoldomeedbnaa", sum := "411bb3da2906826d536164e3cc96cc8b52066c21dc8d4a1124973b8b33342bad", func := "scrimshaw/scrimshawlaw16.NumSizes", spec := "numSizes", apart := false, narrowed := true }
def NumSizesUptoSaid : Prop := numSizesUptoRow.holds Try.pinned (OpenSpec.upto numSizesSpec)

/-- 'scrimshawlaw16.NumAsks', WHERE WHAT IT READS IS OF BULK AT MOST 1048576: true; the input reads as it did. -/
def numAsksUptoRow : OpenClaim := { program := "ythcoldomeedbnaa", sum := "411bb3da2906826d536164e3cc96cc8b52066c21dc8d4a1124973b8b33342bad", func := "scrimshaw/scrimshawlaw16.NumAsks", spec := "numAsks", apart := false, narrowed := true }
def NumAsksUptoSaid : Prop := numAsksUptoRow.holds Try.pinned (OpenSpec.upto numAsksSpec)

/-- 'scrimshawlaw16.NumBack', WHERE WHAT IT READS IS OF BULK AT MOST 1048576: true; the input reads as it did. -/
def numBackUptoRow : OpenClaim := { program := "ythcoldomeedbnaa", sum := "411bb3da2906826d536164e3cc96cc8b52066c21dc8d4a1124973b8b33342bad", func := "scrimshaw/scrimshawlaw16.NumBack", spec := "numBack", apart := false, narrowed := true }
def NumBackUptoSaid : Prop := numBackUptoRow.holds Try.pinned (OpenSpec.upto numBackSpec)

/-- 'scrimshawlaw16.NumOrders', WHERE WHAT IT READS IS OF BULK AT MOST 1048576: true; the input reads as it did. -/
def numOrdersUptoRow : OpenClaim := { program := "ythcoldomeedbnaa", sum := "411bb3da2906826d536164e3cc96cc8b52066c21dc8d4a1124973b8b33342bad", func := "scrimshaw/scrimshawlaw16.NumOrders", spec := "numOrders", apart := false, narrowed := true }
def NumOrdersUptoSaid : Prop := numOrdersUptoRow.holds Try.pinned (OpenSpec.upto numOrdersSpec)

/-- 'scrimshawlaw16.NumFixed', WHERE WHAT IT READS IS OF BULK AT MOST 1048576: true; the input reads as it did. -/
def numFixedUptoRow : OpenClaim := { program := "ythcoldomeedbnaa", sum := "411bb3da2906826d536164e3cc96cc8b52066c21dc8d4a1124973b8b33342bad", func := "scrimshaw/scrimshawlaw16.NumFixed", spec := "numFixed", apart := false, narrowed := true }
def NumFixedUptoSaid : Prop := numFixedUptoRow.holds Try.pinned (OpenSpec.upto numFixedSpec)

/-- 'scrimshawlaw16.NumLong', WHERE WHAT IT READS IS OF BULK AT MOST 1048576: true; the input reads as it did. -/
def numLongUptoRow : OpenClaim := { program := "ythcoldomeedbnaa", sum := "411bb3da2906826d536164e3cc96cc8b52066c21dc8d4a1124973b8b33342bad", func := "scrimshaw/scrimshawlaw16.NumLong", spec := "numLong", apart := false, narrowed := true }
def NumLongUptoSaid : Prop := numLongUptoRow.holds Try.pinned (OpenSpec.upto numLongSpec)

/-- 'scrimshawlaw18.RunMany', WHERE WHAT IT READS IS OF BULK AT MOST 1048576: true; the input reads as it did. -/
def runManyUptoRow : OpenClaim := { program := "ythcoldomeedbnaa", sum := "411bb3da2906826d536164e3cc96cc8b52066c21dc8d4a1124973b8b33342bad", func := "scrimshaw/scrimshawlaw18.RunMany", spec := "runMany", apart := false, narrowed := true }
def RunManyUptoSaid : Prop := runManyUptoRow.holds Try.pinned (OpenSpec.upto runManySpec)

/-- 'scrimshawlaw18.RunAsks', WHERE WHAT IT READS IS OF BULK AT MOST 1048576: true; the input reads as it did. -/
def runAsksUptoRow : OpenClaim := { program := "ythcoldomeedbnaa", sum := "411bb3da2906826d536164e3cc96cc8b52066c21dc8d4a1124973b8b33342bad", func := "scrimshaw/scrimshawlaw18.RunAsks", spec := "runAsks", apart := false, narrowed := true }
def RunAsksUptoSaid : Prop := runAsksUptoRow.holds Try.pinned (OpenSpec.upto runAsksSpec)

/-- 'scrimshawlaw18.RunBack', WHERE WHAT IT READS IS OF BULK AT MOST 1048576: true; the input reads as it did. -/
def runBackUptoRow : OpenClaim := { program := "ythcoldomeedbnaa", sum := "411bb3da2906826d536164e3cc96cc8b52066c21dc8d4a1124973b8b33342bad", func := "scrimshaw/scrimshawlaw18.RunBack", spec := "runBack", apart := false, narrowed := true }
def RunBackUptoSaid : Prop := runBackUptoRow.holds Try.pinned (OpenSpec.upto runBackSpec)

/-- 'scrimshawlaw18.RunLong', WHERE WHAT IT READS IS OF BULK AT MOST 1048576: true; the input reads as it did. -/
def runLongUptoRow : OpenClaim := { program := "ythcoldomeedbnaa", sum := "411bb3da2906826d536164e3cc96cc8b52066c21dc8d4a1124973b8b33342bad", func := "scrimshaw/scrimshawlaw18.RunLong", spec := "runLong", apart := false, narrowed := true }
def RunLongUptoSaid : Prop := runLongUptoRow.holds Try.pinned (OpenSpec.upto runLongSpec)

/-- 'scrimshawlaw18.RunReads', WHERE WHAT IT READS IS OF BULK AT MOST 1048576: true; the input reads as it did. -/
def runReadsUptoRow : OpenClaim := { program := "ythcoldomeedbnaa", sum := "411bb3da2906826d536164e3cc96cc8b52066c21dc8d4a1124973b8b33342bad", func := "scrimshaw/scrimshawlaw18.RunReads", spec := "runReads", apart := false, narrowed := true }
def RunReadsUptoSaid : Prop := runReadsUptoRow.holds Try.pinned (OpenSpec.upto runReadsSpec)

end Rows
end Go.Proofs.Ythcoldomeedbnaa
