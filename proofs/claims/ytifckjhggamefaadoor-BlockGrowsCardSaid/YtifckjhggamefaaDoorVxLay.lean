/- The program bears the library's functions that are not walked. No condition. Written by a program (vxlayg.py). -/
import Derived.Test.YtifckjhggamefaaDoorChecked
import Derived.Shelf.Lays
import Derived.Shelf.Lays2
import Derived.Shelf.SlLaysH
import Derived.KernelRfl
set_option linter.unusedSimpArgs false
set_option linter.unusedVariables false
set_option linter.unusedSectionVars false
namespace Go.Proofs.YtifckjhggamefaaDoor
open Go Go.Shelf
set_option maxRecDepth 100000
def lay189_ren : Ren := ⟨fun | 189 => 40 | 125 => 62 | 257 => 61 | 128 => 80 | 129 => 81 | 294 => 71 | 295 => 72 | 296 => 73 | 297 => 74 | 298 => 75 | 299 => 76 | 216 => 77 | 300 => 78 | 301 => 79 | 328 => 84 | 329 => 85 | 330 => 86 | 331 => 87 | 332 => 88 | 215 => 89 | 343 => 93 | n => n, fun | 28 => 42 | 3 => 3 | 46 => 101 | 0 => 0 | 51 => 116 | 53 => 118 | 4 => 4 | 183 => 108 | 182 => 107 | 131 => 113 | 5 => 5 | 9 => 9 | 218 => 121 | 222 => 125 | 228 => 129 | 229 => 61 | n => n, fun n => n⟩
theorem lay189 : Lays.n189 Tryd.prog lay189_ren where
 mixed := by kernel_rfl
 f125 := Tryd.func62.trans (congrArg some (by kernel_rfl))
 f128 := Tryd.func80.trans (congrArg some (by kernel_rfl))
 f129 := Tryd.func81.trans (congrArg some (by kernel_rfl))
 f189 := Tryd.func40.trans (congrArg some (by kernel_rfl))
 f215 := Tryd.func89.trans (congrArg some (by kernel_rfl))
 f216 := Tryd.func77.trans (congrArg some (by kernel_rfl))
 f257 := Tryd.func61.trans (congrArg some (by kernel_rfl))
 f294 := Tryd.func71.trans (congrArg some (by kernel_rfl))
 f295 := Tryd.func72.trans (congrArg some (by kernel_rfl))
 f296 := Tryd.func73.trans (congrArg some (by kernel_rfl))
 f297 := Tryd.func74.trans (congrArg some (by kernel_rfl))
 f298 := Tryd.func75.trans (congrArg some (by kernel_rfl))
 f299 := Tryd.func76.trans (congrArg some (by kernel_rfl))
 f300 := Tryd.func78.trans (congrArg some (by kernel_rfl))
 f301 := Tryd.func79.trans (congrArg some (by kernel_rfl))
 f328 := Tryd.func84.trans (congrArg some (by kernel_rfl))
 f329 := Tryd.func85.trans (congrArg some (by kernel_rfl))
 f330 := Tryd.func86.trans (congrArg some (by kernel_rfl))
 f331 := Tryd.func87.trans (congrArg some (by kernel_rfl))
 f332 := Tryd.func88.trans (congrArg some (by kernel_rfl))
 f343 := Tryd.func93.trans (congrArg some (by kernel_rfl))
 t0 := Tryd.underlying0
 a0 := Tryd.isAgg0
 z0 := Tryd.sizeOf0
 v0 := Tryd.zeroValue0
 t3 := Tryd.underlying3
 a3 := Tryd.isAgg3
 z3 := Tryd.sizeOf3
 v3 := Tryd.zeroValue3
 t4 := Tryd.underlying4
 a4 := Tryd.isAgg4
 z4 := Tryd.sizeOf4
 v4 := Tryd.zeroValue4
 t5 := Tryd.underlying5
 a5 := Tryd.isAgg5
 z5 := Tryd.sizeOf5
 v5 := Tryd.zeroValue5
 t9 := Tryd.underlying9
 a9 := Tryd.isAgg9
 z9 := Tryd.sizeOf9
 v9 := Tryd.zeroValue9
 t28 := Tryd.underlying42
 a28 := Tryd.isAgg42
 z28 := Tryd.sizeOf42
 v28 := Tryd.zeroValue42
 t46 := Tryd.underlying101
 a46 := Tryd.isAgg101
 z46 := Tryd.sizeOf101
 v46 := Tryd.zeroValue101
 t51 := Tryd.underlying116
 a51 := Tryd.isAgg116
 z51 := Tryd.sizeOf116
 v51 := Tryd.zeroValue116
 t53 := Tryd.underlying118
 a53 := Tryd.isAgg118
 z53 := Tryd.sizeOf118
 v53 := Tryd.zeroValue118
 t131 := Tryd.underlying113
 a131 := Tryd.isAgg113
 z131 := Tryd.sizeOf113
 v131 := Tryd.zeroValue113
 t182 := Tryd.underlying107
 a182 := Tryd.isAgg107
 z182 := Tryd.sizeOf107
 v182 := Tryd.zeroValue107
 t183 := Tryd.underlying108
 a183 := Tryd.isAgg108
 z183 := Tryd.sizeOf108
 v183 := Tryd.zeroValue108
 t218 := Tryd.underlying121
 a218 := Tryd.isAgg121
 z218 := Tryd.sizeOf121
 v218 := Tryd.zeroValue121
 t222 := Tryd.underlying125
 a222 := Tryd.isAgg125
 z222 := Tryd.sizeOf125
 v222 := Tryd.zeroValue125
 t228 := Tryd.underlying129
 a228 := Tryd.isAgg129
 z228 := Tryd.sizeOf129
 v228 := Tryd.zeroValue129
 t229 := Tryd.underlying61
 a229 := Tryd.isAgg61
 z229 := Tryd.sizeOf61
 v229 := Tryd.zeroValue61
def lay20_ren : Ren := ⟨fun | 20 => 21 | n => n, fun | 22 => 42 | 3 => 3 | 4 => 4 | 0 => 0 | n => n, fun n => n⟩
theorem lay20 : Lays2.n20 Tryd.prog lay20_ren where
 mixed := by kernel_rfl
 f20 := Tryd.func21.trans (congrArg some (by kernel_rfl))
 t0 := Tryd.underlying0
 a0 := Tryd.isAgg0
 z0 := Tryd.sizeOf0
 v0 := Tryd.zeroValue0
 t3 := Tryd.underlying3
 a3 := Tryd.isAgg3
 z3 := Tryd.sizeOf3
 v3 := Tryd.zeroValue3
 t4 := Tryd.underlying4
 a4 := Tryd.isAgg4
 z4 := Tryd.sizeOf4
 v4 := Tryd.zeroValue4
 t22 := Tryd.underlying42
 a22 := Tryd.isAgg42
 z22 := Tryd.sizeOf42
 v22 := Tryd.zeroValue42
 i3 := by kernel_rfl
def lay10_ren : Ren := ⟨fun | 10 => 27 | 6 => 43 | n => n, fun | 22 => 42 | 23 => 3 | 25 => 74 | 3 => 3 | 4 => 4 | 0 => 0 | n => n, fun n => n⟩
theorem lay10 : SlLaysH.n10 Tryd.prog lay10_ren where
 mixed := by kernel_rfl
 f6 := ⟨ "slices.IndexFunc[[]int,int]", by decide, Tryd.func43.trans (congrArg some (by kernel_rfl))⟩
 f10 := ⟨ "slices.DeleteFunc[[]int,int]", by decide, Tryd.func27.trans (congrArg some (by kernel_rfl))⟩
 t0 := Tryd.underlying0
 a0 := Tryd.isAgg0
 z0 := Tryd.sizeOf0
 v0 := Tryd.zeroValue0
 t3 := Tryd.underlying3
 a3 := Tryd.isAgg3
 z3 := Tryd.sizeOf3
 v3 := Tryd.zeroValue3
 t4 := Tryd.underlying4
 a4 := Tryd.isAgg4
 z4 := Tryd.sizeOf4
 v4 := Tryd.zeroValue4
 t22 := Tryd.underlying42
 a22 := Tryd.isAgg42
 z22 := Tryd.sizeOf42
 v22 := Tryd.zeroValue42
 a23 := Tryd.isAgg3
 z23 := Tryd.sizeOf3
 t25 := Tryd.underlying74
 a25 := Tryd.isAgg74
 z25 := Tryd.sizeOf74
 v25 := Tryd.zeroValue74
end Go.Proofs.YtifckjhggamefaaDoor
