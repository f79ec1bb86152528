/- The contracts of slices.SortFunc, slices.BinarySearchFunc, slices.IndexFunc and cmp.Compare at this program, laid in plain words (the tables of numbers, and that each body is the one that the contract is about). No conditions. -/
import Derived.Shelf.Sort.Plain
import Derived.Shelf.SlSortCmp.Whole1
import Derived.Shelf.SlicesG.Cmp
import Derived.Shelf.SlicesE.IndexFunc
import Derived.Shelf.SlCmpFuncs.BinarySearchFunc
import Derived.Shelf.SlCmpFuncs.None
import Derived.Test.YtcfpmjbojoidoaaGreatDoorProg
namespace Go.Proofs.YtcfpmjbojoidoaaGreatDoor
open Go.Shelf
def shSrt_ren : Go.Shelf.Ren := ⟨fun | 189 => 85 | 125 => 100 | 257 => 157 | 128 => 184 | 129 => 185 | 294 => 222 | 295 => 223 | 296 => 224 | 297 => 225 | 298 => 226 | 299 => 227 | 216 => 228 | 300 => 229 | 301 => 230 | 328 => 263 | 329 => 241 | 330 => 242 | 331 => 264 | 332 => 265 | 215 => 186 | 343 => 282 | n => n, fun | 28 => 48 | 3 => 3 | 46 => 22 | 0 => 0 | 51 => 90 | 53 => 159 | 4 => 4 | 183 => 212 | 182 => 211 | 131 => 59 | 5 => 5 | 9 => 9 | 218 => 263 | 222 => 267 | 228 => 286 | 229 => 112 | n => n, fun | n => n⟩
theorem shSrt : Go.Proofs.Lays.n189 Tryz.prog shSrt_ren := {
  mixed := by kernel_rfl
  f125 := Tryz.func100.trans (congrArg some (by kernel_rfl))
  f128 := Tryz.func184.trans (congrArg some (by kernel_rfl))
  f129 := Tryz.func185.trans (congrArg some (by kernel_rfl))
  f189 := Tryz.func85.trans (congrArg some (by kernel_rfl))
  f215 := Tryz.func186.trans (congrArg some (by kernel_rfl))
  f216 := Tryz.func228.trans (congrArg some (by kernel_rfl))
  f257 := Tryz.func157.trans (congrArg some (by kernel_rfl))
  f294 := Tryz.func222.trans (congrArg some (by kernel_rfl))
  f295 := Tryz.func223.trans (congrArg some (by kernel_rfl))
  f296 := Tryz.func224.trans (congrArg some (by kernel_rfl))
  f297 := Tryz.func225.trans (congrArg some (by kernel_rfl))
  f298 := Tryz.func226.trans (congrArg some (by kernel_rfl))
  f299 := Tryz.func227.trans (congrArg some (by kernel_rfl))
  f300 := Tryz.func229.trans (congrArg some (by kernel_rfl))
  f301 := Tryz.func230.trans (congrArg some (by kernel_rfl))
  f328 := Tryz.func263.trans (congrArg some (by kernel_rfl))
  f329 := Tryz.func241.trans (congrArg some (by kernel_rfl))
  f330 := Tryz.func242.trans (congrArg some (by kernel_rfl))
  f331 := Tryz.func264.trans (congrArg some (by kernel_rfl))
  f332 := Tryz.func265.trans (congrArg some (by kernel_rfl))
  f343 := Tryz.func282.trans (congrArg some (by kernel_rfl))
  t0 := Tryz.underlying0
  a0 := Tryz.isAgg0
  z0 := Tryz.sizeOf0
  v0 := Tryz.zeroValue0
  t3 := Tryz.underlying3
  a3 := Tryz.isAgg3
  z3 := Tryz.sizeOf3
  v3 := Tryz.zeroValue3
  t4 := Tryz.underlying4
  a4 := Tryz.isAgg4
  z4 := Tryz.sizeOf4
  v4 := Tryz.zeroValue4
  t5 := Tryz.underlying5
  a5 := Tryz.isAgg5
  z5 := Tryz.sizeOf5
  v5 := Tryz.zeroValue5
  t9 := Tryz.underlying9
  a9 := Tryz.isAgg9
  z9 := Tryz.sizeOf9
  v9 := Tryz.zeroValue9
  t28 := Tryz.underlying48
  a28 := Tryz.isAgg48
  z28 := Tryz.sizeOf48
  v28 := Tryz.zeroValue48
  t46 := Tryz.underlying22
  a46 := Tryz.isAgg22
  z46 := Tryz.sizeOf22
  v46 := Tryz.zeroValue22
  t51 := Tryz.underlying90
  a51 := Tryz.isAgg90
  z51 := Tryz.sizeOf90
  v51 := Tryz.zeroValue90
  t53 := Tryz.underlying159
  a53 := Tryz.isAgg159
  z53 := Tryz.sizeOf159
  v53 := Tryz.zeroValue159
  t131 := Tryz.underlying59
  a131 := Tryz.isAgg59
  z131 := Tryz.sizeOf59
  v131 := Tryz.zeroValue59
  t182 := Tryz.underlying211
  a182 := Tryz.isAgg211
  z182 := Tryz.sizeOf211
  v182 := Tryz.zeroValue211
  t183 := Tryz.underlying212
  a183 := Tryz.isAgg212
  z183 := Tryz.sizeOf212
  v183 := Tryz.zeroValue212
  t218 := Tryz.underlying263
  a218 := Tryz.isAgg263
  z218 := Tryz.sizeOf263
  v218 := Tryz.zeroValue263
  t222 := Tryz.underlying267
  a222 := Tryz.isAgg267
  z222 := Tryz.sizeOf267
  v222 := Tryz.zeroValue267
  t228 := Tryz.underlying286
  a228 := Tryz.isAgg286
  z228 := Tryz.sizeOf286
  v228 := Tryz.zeroValue286
  t229 := Tryz.underlying112
  a229 := Tryz.isAgg112
  z229 := Tryz.sizeOf112
  v229 := Tryz.zeroValue112 }
def shLen_ren : Go.Shelf.Ren := ⟨fun | 125 => 100 | 128 => 184 | 129 => 185 | n => n, fun | 46 => 22 | 3 => 3 | 51 => 90 | 53 => 159 | 4 => 4 | 5 => 5 | 9 => 9 | n => n, fun | n => n⟩
theorem shLen : Go.Proofs.Lays.n125 Tryz.prog shLen_ren := {
  mixed := by kernel_rfl
  f125 := Tryz.func100.trans (congrArg some (by kernel_rfl))
  f128 := Tryz.func184.trans (congrArg some (by kernel_rfl))
  f129 := Tryz.func185.trans (congrArg some (by kernel_rfl))
  t3 := Tryz.underlying3
  a3 := Tryz.isAgg3
  z3 := Tryz.sizeOf3
  v3 := Tryz.zeroValue3
  t4 := Tryz.underlying4
  a4 := Tryz.isAgg4
  z4 := Tryz.sizeOf4
  v4 := Tryz.zeroValue4
  t5 := Tryz.underlying5
  a5 := Tryz.isAgg5
  z5 := Tryz.sizeOf5
  v5 := Tryz.zeroValue5
  t9 := Tryz.underlying9
  a9 := Tryz.isAgg9
  z9 := Tryz.sizeOf9
  v9 := Tryz.zeroValue9
  t46 := Tryz.underlying22
  a46 := Tryz.isAgg22
  z46 := Tryz.sizeOf22
  v46 := Tryz.zeroValue22
  t51 := Tryz.underlying90
  a51 := Tryz.isAgg90
  z51 := Tryz.sizeOf90
  v51 := Tryz.zeroValue90
  t53 := Tryz.underlying159
  a53 := Tryz.isAgg159
  z53 := Tryz.sizeOf159
  v53 := Tryz.zeroValue159 }
end Go.Proofs.YtcfpmjbojoidoaaGreatDoor
