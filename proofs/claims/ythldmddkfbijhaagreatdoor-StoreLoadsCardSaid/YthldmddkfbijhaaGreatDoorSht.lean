/- The contracts of math/bits.TrailingZeros64 at this program, laid in plain words (the tables of numbers, and that each body is the one that the contract is about). No conditions. -/
import Derived.Shelf.Spec.TrailingZeros
import Derived.Test.YthldmddkfbijhaaGreatDoorProg
namespace Go.Proofs.YthldmddkfbijhaaGreatDoor
open Go.Shelf
def shTz_ren : Go.Shelf.Ren := ⟨fun | 29 => 278 | n => n, fun | 22 => 72 | 3 => 3 | 4 => 4 | 25 => 34 | 54 => 279 | 0 => 0 | 5 => 5 | n => n, fun | 1 => 1 | n => n⟩
theorem shTz : Go.Proofs.Lays7.n29 Tryz.prog shTz_ren := {
  mixed := by kernel_rfl
  f29 := Tryz.func278.trans (congrArg some (by kernel_rfl))
  t0 := Tryz.underlying0
  a0 := Tryz.isAgg0
  z0 := Tryz.sizeOf0
  v0 := Tryz.zeroValue0
  i0 := by kernel_rfl
  t3 := Tryz.underlying3
  a3 := Tryz.isAgg3
  z3 := Tryz.sizeOf3
  v3 := Tryz.zeroValue3
  i3 := by kernel_rfl
  t4 := Tryz.underlying4
  a4 := Tryz.isAgg4
  z4 := Tryz.sizeOf4
  v4 := Tryz.zeroValue4
  i4 := by kernel_rfl
  t5 := Tryz.underlying5
  a5 := Tryz.isAgg5
  z5 := Tryz.sizeOf5
  v5 := Tryz.zeroValue5
  i5 := by kernel_rfl
  t22 := Tryz.underlying72
  a22 := Tryz.isAgg72
  z22 := Tryz.sizeOf72
  v22 := Tryz.zeroValue72
  i22 := by kernel_rfl
  t25 := Tryz.underlying34
  a25 := Tryz.isAgg34
  z25 := Tryz.sizeOf34
  v25 := Tryz.zeroValue34
  i25 := by kernel_rfl
  t54 := Tryz.underlying279
  a54 := Tryz.isAgg279
  z54 := Tryz.sizeOf279
  g1 := by kernel_rfl }
end Go.Proofs.YthldmddkfbijhaaGreatDoor
