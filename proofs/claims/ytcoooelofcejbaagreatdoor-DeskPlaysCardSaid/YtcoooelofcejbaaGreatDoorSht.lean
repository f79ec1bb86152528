/- The contracts of math/bits.TrailingZeros64 at this program, laid in plain words (the tables of numbers, and that each body is the one that the contract is about). No conditions. -/
import Derived.Shelf.Spec.TrailingZeros
import Derived.Test.YtcoooelofcejbaaGreatDoorProg
namespace Go.Proofs.YtcoooelofcejbaaGreatDoor
open Go.Shelf
def shTz_ren : Go.Shelf.Ren := ⟨fun | 29 => 255 | n => n, fun | 22 => 164 | 3 => 3 | 4 => 4 | 25 => 23 | 54 => 294 | 0 => 0 | 5 => 5 | n => n, fun | 1 => 7 | n => n⟩
theorem shTz : Go.Proofs.Lays7.n29 Tryz.prog shTz_ren := {
  mixed := by kernel_rfl
  f29 := Tryz.func255.trans (congrArg some (by kernel_rfl))
  t0 := Tryz.underlying0
  a0 := Tryz.isAgg0
  z0 := Tryz.sizeOf0
  v0 := Tryz.zeroValue0
  i0 := by kernel_rfl
  t3 := Tryz.underlying3
  a3 := Tryz.isAgg3
  z3 := Tryz.sizeOf3
  v3 := Tryz.zeroValue3
  i3 := by kernel_rfl
  t4 := Tryz.underlying4
  a4 := Tryz.isAgg4
  z4 := Tryz.sizeOf4
  v4 := Tryz.zeroValue4
  i4 := by kernel_rfl
  t5 := Tryz.underlying5
  a5 := Tryz.isAgg5
  z5 := Tryz.sizeOf5
  v5 := Tryz.zeroValue5
  i5 := by kernel_rfl
  t22 := Tryz.underlying164
  a22 := Tryz.isAgg164
  z22 := Tryz.sizeOf164
  v22 := Tryz.zeroValue164
  i22 := by kernel_rfl
  t25 := Tryz.underlying23
  a25 := Tryz.isAgg23
  z25 := Tryz.sizeOf23
  v25 := Tryz.zeroValue23
  i25 := by kernel_rfl
  t54 := Tryz.underlying294
  a54 := Tryz.isAgg294
  z54 := Tryz.sizeOf294
  g1 := by kernel_rfl }
end Go.Proofs.YtcoooelofcejbaaGreatDoor
