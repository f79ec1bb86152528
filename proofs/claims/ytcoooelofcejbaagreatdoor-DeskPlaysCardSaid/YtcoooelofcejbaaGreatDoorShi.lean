/- The contracts of slices.Insert and slices.Delete at this program, laid in plain words (the tables of numbers, and that each body is the one that the contract is about). No conditions. -/
import Derived.Shelf.Spec.SlicesInsert
import Derived.Shelf.Spec.SlicesInsertGrow
import Derived.Shelf.Slices.Delete
import Derived.Test.YtcoooelofcejbaaGreatDoorProg
namespace Go.Proofs.YtcoooelofcejbaaGreatDoor
open Go.Shelf
def shIns_ren : Go.Shelf.Ren := ⟨fun | 21 => 70 | 27 => 115 | 28 => 116 | 35 => 195 | 39 => 253 | n => n, fun | 22 => 48 | 3 => 3 | 4 => 4 | 0 => 0 | n => n, fun | n => n⟩
theorem shIns : Go.Proofs.Lays2.n21 Tryz.prog shIns_ren := {
  mixed := by kernel_rfl
  f21 := Tryz.func70.trans (congrArg some (by kernel_rfl))
  f27 := Tryz.func115.trans (congrArg some (by kernel_rfl))
  f28 := Tryz.func116.trans (congrArg some (by kernel_rfl))
  f35 := Tryz.func195.trans (congrArg some (by kernel_rfl))
  f39 := Tryz.func253.trans (congrArg some (by kernel_rfl))
  t0 := Tryz.underlying0
  a0 := Tryz.isAgg0
  z0 := Tryz.sizeOf0
  v0 := Tryz.zeroValue0
  t3 := Tryz.underlying3
  a3 := Tryz.isAgg3
  z3 := Tryz.sizeOf3
  v3 := Tryz.zeroValue3
  t4 := Tryz.underlying4
  a4 := Tryz.isAgg4
  z4 := Tryz.sizeOf4
  v4 := Tryz.zeroValue4
  t22 := Tryz.underlying48
  a22 := Tryz.isAgg48
  z22 := Tryz.sizeOf48
  v22 := Tryz.zeroValue48
  i3 := by kernel_rfl }
def shDel_ren : Go.Shelf.Ren := ⟨fun | 23 => 265 | n => n, fun | 22 => 48 | 3 => 3 | 4 => 4 | 0 => 0 | n => n, fun | n => n⟩
theorem shDel : Go.Proofs.Lays2.n23 Tryz.prog shDel_ren := {
  mixed := by kernel_rfl
  f23 := Tryz.func265.trans (congrArg some (by kernel_rfl))
  t0 := Tryz.underlying0
  a0 := Tryz.isAgg0
  z0 := Tryz.sizeOf0
  v0 := Tryz.zeroValue0
  t3 := Tryz.underlying3
  a3 := Tryz.isAgg3
  z3 := Tryz.sizeOf3
  v3 := Tryz.zeroValue3
  t4 := Tryz.underlying4
  a4 := Tryz.isAgg4
  z4 := Tryz.sizeOf4
  v4 := Tryz.zeroValue4
  t22 := Tryz.underlying48
  a22 := Tryz.isAgg48
  z22 := Tryz.sizeOf48
  v22 := Tryz.zeroValue48
  i3 := by kernel_rfl }
end Go.Proofs.YtcoooelofcejbaaGreatDoor
