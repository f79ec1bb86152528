/- The contracts of slices.SortFunc, slices.BinarySearchFunc, slices.IndexFunc and cmp.Compare at this program, laid in plain words (the tables of numbers, and that each body is the one that the contract is about). No conditions. -/
import Derived.Shelf.Sort.Plain
import Derived.Shelf.SlSortCmp.Whole1
import Derived.Shelf.SlicesG.Cmp
import Derived.Shelf.SlicesE.IndexFunc
import Derived.Shelf.SlCmpFuncs.BinarySearchFunc
import Derived.Shelf.SlCmpFuncs.None
import Derived.Test.YtnhmjomhloainaaGreatDoorProg
namespace Go.Proofs.YtnhmjomhloainaaGreatDoor
open Go.Shelf
def shSrt_ren : Go.Shelf.Ren := ⟨fun | 189 => 168 | 125 => 178 | 257 => 218 | 128 => 231 | 129 => 232 | 294 => 250 | 295 => 251 | 296 => 252 | 297 => 253 | 298 => 254 | 299 => 255 | 216 => 256 | 300 => 257 | 301 => 258 | 328 => 280 | 329 => 263 | 330 => 264 | 331 => 281 | 332 => 282 | 215 => 233 | 343 => 296 | n => n, fun | 28 => 22 | 3 => 3 | 46 => 25 | 0 => 0 | 51 => 108 | 53 => 105 | 4 => 4 | 183 => 245 | 182 => 244 | 131 => 163 | 5 => 5 | 9 => 9 | 218 => 271 | 222 => 275 | 228 => 283 | 229 => 94 | n => n, fun | n => n⟩
theorem shSrt : Go.Proofs.Lays.n189 Tryz.prog shSrt_ren := {
  mixed := by kernel_rfl
  f125 := Tryz.func178.trans (congrArg some (by kernel_rfl))
  f128 := Tryz.func231.trans (congrArg some (by kernel_rfl))
  f129 := Tryz.func232.trans (congrArg some (by kernel_rfl))
  f189 := Tryz.func168.trans (congrArg some (by kernel_rfl))
  f215 := Tryz.func233.trans (congrArg some (by kernel_rfl))
  f216 := Tryz.func256.trans (congrArg some (by kernel_rfl))
  f257 := Tryz.func218.trans (congrArg some (by kernel_rfl))
  f294 := Tryz.func250.trans (congrArg some (by kernel_rfl))
  f295 := Tryz.func251.trans (congrArg some (by kernel_rfl))
  f296 := Tryz.func252.trans (congrArg some (by kernel_rfl))
  f297 := Tryz.func253.trans (congrArg some (by kernel_rfl))
  f298 := Tryz.func254.trans (congrArg some (by kernel_rfl))
  f299 := Tryz.func255.trans (congrArg some (by kernel_rfl))
  f300 := Tryz.func257.trans (congrArg some (by kernel_rfl))
  f301 := Tryz.func258.trans (congrArg some (by kernel_rfl))
  f328 := Tryz.func280.trans (congrArg some (by kernel_rfl))
  f329 := Tryz.func263.trans (congrArg some (by kernel_rfl))
  f330 := Tryz.func264.trans (congrArg some (by kernel_rfl))
  f331 := Tryz.func281.trans (congrArg some (by kernel_rfl))
  f332 := Tryz.func282.trans (congrArg some (by kernel_rfl))
  f343 := Tryz.func296.trans (congrArg some (by kernel_rfl))
  t0 := Tryz.underlying0
  a0 := Tryz.isAgg0
  z0 := Tryz.sizeOf0
  v0 := Tryz.zeroValue0
  t3 := Tryz.underlying3
  a3 := Tryz.isAgg3
  z3 := Tryz.sizeOf3
  v3 := Tryz.zeroValue3
  t4 := Tryz.underlying4
  a4 := Tryz.isAgg4
  z4 := Tryz.sizeOf4
  v4 := Tryz.zeroValue4
  t5 := Tryz.underlying5
  a5 := Tryz.isAgg5
  z5 := Tryz.sizeOf5
  v5 := Tryz.zeroValue5
  t9 := Tryz.underlying9
  a9 := Tryz.isAgg9
  z9 := Tryz.sizeOf9
  v9 := Tryz.zeroValue9
  t28 := Tryz.underlying22
  a28 := Tryz.isAgg22
  z28 := Tryz.sizeOf22
  v28 := Tryz.zeroValue22
  t46 := Tryz.underlying25
  a46 := Tryz.isAgg25
  z46 := Tryz.sizeOf25
  v46 := Tryz.zeroValue25
  t51 := Tryz.underlying108
  a51 := Tryz.isAgg108
  z51 := Tryz.sizeOf108
  v51 := Tryz.zeroValue108
  t53 := Tryz.underlying105
  a53 := Tryz.isAgg105
  z53 := Tryz.sizeOf105
  v53 := Tryz.zeroValue105
  t131 := Tryz.underlying163
  a131 := Tryz.isAgg163
  z131 := Tryz.sizeOf163
  v131 := Tryz.zeroValue163
  t182 := Tryz.underlying244
  a182 := Tryz.isAgg244
  z182 := Tryz.sizeOf244
  v182 := Tryz.zeroValue244
  t183 := Tryz.underlying245
  a183 := Tryz.isAgg245
  z183 := Tryz.sizeOf245
  v183 := Tryz.zeroValue245
  t218 := Tryz.underlying271
  a218 := Tryz.isAgg271
  z218 := Tryz.sizeOf271
  v218 := Tryz.zeroValue271
  t222 := Tryz.underlying275
  a222 := Tryz.isAgg275
  z222 := Tryz.sizeOf275
  v222 := Tryz.zeroValue275
  t228 := Tryz.underlying283
  a228 := Tryz.isAgg283
  z228 := Tryz.sizeOf283
  v228 := Tryz.zeroValue283
  t229 := Tryz.underlying94
  a229 := Tryz.isAgg94
  z229 := Tryz.sizeOf94
  v229 := Tryz.zeroValue94 }
def shLen_ren : Go.Shelf.Ren := ⟨fun | 125 => 178 | 128 => 231 | 129 => 232 | n => n, fun | 46 => 25 | 3 => 3 | 51 => 108 | 53 => 105 | 4 => 4 | 5 => 5 | 9 => 9 | n => n, fun | n => n⟩
theorem shLen : Go.Proofs.Lays.n125 Tryz.prog shLen_ren := {
  mixed := by kernel_rfl
  f125 := Tryz.func178.trans (congrArg some (by kernel_rfl))
  f128 := Tryz.func231.trans (congrArg some (by kernel_rfl))
  f129 := Tryz.func232.trans (congrArg some (by kernel_rfl))
  t3 := Tryz.underlying3
  a3 := Tryz.isAgg3
  z3 := Tryz.sizeOf3
  v3 := Tryz.zeroValue3
  t4 := Tryz.underlying4
  a4 := Tryz.isAgg4
  z4 := Tryz.sizeOf4
  v4 := Tryz.zeroValue4
  t5 := Tryz.underlying5
  a5 := Tryz.isAgg5
  z5 := Tryz.sizeOf5
  v5 := Tryz.zeroValue5
  t9 := Tryz.underlying9
  a9 := Tryz.isAgg9
  z9 := Tryz.sizeOf9
  v9 := Tryz.zeroValue9
  t46 := Tryz.underlying25
  a46 := Tryz.isAgg25
  z46 := Tryz.sizeOf25
  v46 := Tryz.zeroValue25
  t51 := Tryz.underlying108
  a51 := Tryz.isAgg108
  z51 := Tryz.sizeOf108
  v51 := Tryz.zeroValue108
  t53 := Tryz.underlying105
  a53 := Tryz.isAgg105
  z53 := Tryz.sizeOf105
  v53 := Tryz.zeroValue105 }
end Go.Proofs.YtnhmjomhloainaaGreatDoor
