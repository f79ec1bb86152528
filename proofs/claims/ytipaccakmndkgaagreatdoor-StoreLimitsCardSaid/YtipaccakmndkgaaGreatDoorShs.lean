/- The contracts of slices.SortFunc, slices.BinarySearchFunc, slices.IndexFunc and cmp.Compare at this program, laid in plain words (the tables of numbers, and that each body is the one that the contract is about). No conditions. -/
import Derived.Shelf.Sort.Plain
import Derived.Shelf.SlSortCmp.Whole1
import Derived.Shelf.SlicesG.Cmp
import Derived.Shelf.SlicesE.IndexFunc
import Derived.Shelf.SlCmpFuncs.BinarySearchFunc
import Derived.Shelf.SlCmpFuncs.None
import Derived.Test.YtipaccakmndkgaaGreatDoorProg
namespace Go.Proofs.YtipaccakmndkgaaGreatDoor
open Go.Shelf
def shSrt_ren : Go.Shelf.Ren := ⟨fun | 189 => 172 | 125 => 182 | 257 => 220 | 128 => 233 | 129 => 234 | 294 => 249 | 295 => 250 | 296 => 251 | 297 => 252 | 298 => 253 | 299 => 254 | 216 => 255 | 300 => 256 | 301 => 257 | 328 => 279 | 329 => 262 | 330 => 263 | 331 => 280 | 332 => 281 | 215 => 235 | 343 => 296 | n => n, fun | 28 => 22 | 3 => 3 | 46 => 28 | 0 => 0 | 51 => 108 | 53 => 105 | 4 => 4 | 183 => 245 | 182 => 244 | 131 => 163 | 5 => 5 | 9 => 9 | 218 => 270 | 222 => 274 | 228 => 282 | 229 => 92 | n => n, fun | n => n⟩
theorem shSrt : Go.Proofs.Lays.n189 Tryz.prog shSrt_ren := {
  mixed := by kernel_rfl
  f125 := Tryz.func182.trans (congrArg some (by kernel_rfl))
  f128 := Tryz.func233.trans (congrArg some (by kernel_rfl))
  f129 := Tryz.func234.trans (congrArg some (by kernel_rfl))
  f189 := Tryz.func172.trans (congrArg some (by kernel_rfl))
  f215 := Tryz.func235.trans (congrArg some (by kernel_rfl))
  f216 := Tryz.func255.trans (congrArg some (by kernel_rfl))
  f257 := Tryz.func220.trans (congrArg some (by kernel_rfl))
  f294 := Tryz.func249.trans (congrArg some (by kernel_rfl))
  f295 := Tryz.func250.trans (congrArg some (by kernel_rfl))
  f296 := Tryz.func251.trans (congrArg some (by kernel_rfl))
  f297 := Tryz.func252.trans (congrArg some (by kernel_rfl))
  f298 := Tryz.func253.trans (congrArg some (by kernel_rfl))
  f299 := Tryz.func254.trans (congrArg some (by kernel_rfl))
  f300 := Tryz.func256.trans (congrArg some (by kernel_rfl))
  f301 := Tryz.func257.trans (congrArg some (by kernel_rfl))
  f328 := Tryz.func279.trans (congrArg some (by kernel_rfl))
  f329 := Tryz.func262.trans (congrArg some (by kernel_rfl))
  f330 := Tryz.func263.trans (congrArg some (by kernel_rfl))
  f331 := Tryz.func280.trans (congrArg some (by kernel_rfl))
  f332 := Tryz.func281.trans (congrArg some (by kernel_rfl))
  f343 := Tryz.func296.trans (congrArg some (by kernel_rfl))
  t0 := Tryz.underlying0
  a0 := Tryz.isAgg0
  z0 := Tryz.sizeOf0
  v0 := Tryz.zeroValue0
  t3 := Tryz.underlying3
  a3 := Tryz.isAgg3
  z3 := Tryz.sizeOf3
  v3 := Tryz.zeroValue3
  t4 := Tryz.underlying4
  a4 := Tryz.isAgg4
  z4 := Tryz.sizeOf4
  v4 := Tryz.zeroValue4
  t5 := Tryz.underlying5
  a5 := Tryz.isAgg5
  z5 := Tryz.sizeOf5
  v5 := Tryz.zeroValue5
  t9 := Tryz.underlying9
  a9 := Tryz.isAgg9
  z9 := Tryz.sizeOf9
  v9 := Tryz.zeroValue9
  t28 := Tryz.underlying22
  a28 := Tryz.isAgg22
  z28 := Tryz.sizeOf22
  v28 := Tryz.zeroValue22
  t46 := Tryz.underlying28
  a46 := Tryz.isAgg28
  z46 := Tryz.sizeOf28
  v46 := Tryz.zeroValue28
  t51 := Tryz.underlying108
  a51 := Tryz.isAgg108
  z51 := Tryz.sizeOf108
  v51 := Tryz.zeroValue108
  t53 := Tryz.underlying105
  a53 := Tryz.isAgg105
  z53 := Tryz.sizeOf105
  v53 := Tryz.zeroValue105
  t131 := Tryz.underlying163
  a131 := Tryz.isAgg163
  z131 := Tryz.sizeOf163
  v131 := Tryz.zeroValue163
  t182 := Tryz.underlying244
  a182 := Tryz.isAgg244
  z182 := Tryz.sizeOf244
  v182 := Tryz.zeroValue244
  t183 := Tryz.underlying245
  a183 := Tryz.isAgg245
  z183 := Tryz.sizeOf245
  v183 := Tryz.zeroValue245
  t218 := Tryz.underlying270
  a218 := Tryz.isAgg270
  z218 := Tryz.sizeOf270
  v218 := Tryz.zeroValue270
  t222 := Tryz.underlying274
  a222 := Tryz.isAgg274
  z222 := Tryz.sizeOf274
  v222 := Tryz.zeroValue274
  t228 := Tryz.underlying282
  a228 := Tryz.isAgg282
  z228 := Tryz.sizeOf282
  v228 := Tryz.zeroValue282
  t229 := Tryz.underlying92
  a229 := Tryz.isAgg92
  z229 := Tryz.sizeOf92
  v229 := Tryz.zeroValue92 }
def shLen_ren : Go.Shelf.Ren := ⟨fun | 125 => 182 | 128 => 233 | 129 => 234 | n => n, fun | 46 => 28 | 3 => 3 | 51 => 108 | 53 => 105 | 4 => 4 | 5 => 5 | 9 => 9 | n => n, fun | n => n⟩
theorem shLen : Go.Proofs.Lays.n125 Tryz.prog shLen_ren := {
  mixed := by kernel_rfl
  f125 := Tryz.func182.trans (congrArg some (by kernel_rfl))
  f128 := Tryz.func233.trans (congrArg some (by kernel_rfl))
  f129 := Tryz.func234.trans (congrArg some (by kernel_rfl))
  t3 := Tryz.underlying3
  a3 := Tryz.isAgg3
  z3 := Tryz.sizeOf3
  v3 := Tryz.zeroValue3
  t4 := Tryz.underlying4
  a4 := Tryz.isAgg4
  z4 := Tryz.sizeOf4
  v4 := Tryz.zeroValue4
  t5 := Tryz.underlying5
  a5 := Tryz.isAgg5
  z5 := Tryz.sizeOf5
  v5 := Tryz.zeroValue5
  t9 := Tryz.underlying9
  a9 := Tryz.isAgg9
  z9 := Tryz.sizeOf9
  v9 := Tryz.zeroValue9
  t46 := Tryz.underlying28
  a46 := Tryz.isAgg28
  z46 := Tryz.sizeOf28
  v46 := Tryz.zeroValue28
  t51 := Tryz.underlying108
  a51 := Tryz.isAgg108
  z51 := Tryz.sizeOf108
  v51 := Tryz.zeroValue108
  t53 := Tryz.underlying105
  a53 := Tryz.isAgg105
  z53 := Tryz.sizeOf105
  v53 := Tryz.zeroValue105 }
end Go.Proofs.YtipaccakmndkgaaGreatDoor
