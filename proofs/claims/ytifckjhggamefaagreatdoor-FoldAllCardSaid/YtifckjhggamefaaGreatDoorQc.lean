/- The program bears the library's functions that are not walked. No condition. Written by a program (vxlayg.py). -/
import Derived.Test.YtifckjhggamefaaGreatDoorChecked
import Derived.Shelf.Lays
import Derived.Shelf.Lays2
import Derived.Shelf.SlLaysH
import Derived.KernelRfl
set_option linter.unusedSimpArgs false
set_option linter.unusedVariables false
set_option linter.unusedSectionVars false
namespace Go.Proofs.YtifckjhggamefaaGreatDoor
open Go Go.Shelf
set_option maxRecDepth 100000
def lay189_ren : Ren := ⟨fun | 189 => 79 | 125 => 126 | 257 => 125 | 128 => 153 | 129 => 154 | 294 => 144 | 295 => 145 | 296 => 146 | 297 => 147 | 298 => 148 | 299 => 149 | 216 => 150 | 300 => 151 | 301 => 152 | 328 => 161 | 329 => 162 | 330 => 163 | 331 => 164 | 332 => 165 | 215 => 166 | 343 => 170 | n => n,fun | 28 => 62 | 3 => 3 | 46 => 167 | 0 => 0 | 51 => 182 | 53 => 184 | 4 => 4 | 183 => 174 | 182 => 173 | 131 => 179 | 5 => 5 | 9 => 9 | 218 => 187 | 222 => 191 | 228 => 194 | 229 => 90 | n => n,fun n => n⟩
theorem lay189 : Lays.n189 Tryz.prog lay189_ren where
 mixed := by kernel_rfl
 f125 := Tryz.func126.trans (congrArg some (by kernel_rfl))
 f128 := Tryz.func153.trans (congrArg some (by kernel_rfl))
 f129 := Tryz.func154.trans (congrArg some (by kernel_rfl))
 f189 := Tryz.func79.trans (congrArg some (by kernel_rfl))
 f215 := Tryz.func166.trans (congrArg some (by kernel_rfl))
 f216 := Tryz.func150.trans (congrArg some (by kernel_rfl))
 f257 := Tryz.func125.trans (congrArg some (by kernel_rfl))
 f294 := Tryz.func144.trans (congrArg some (by kernel_rfl))
 f295 := Tryz.func145.trans (congrArg some (by kernel_rfl))
 f296 := Tryz.func146.trans (congrArg some (by kernel_rfl))
 f297 := Tryz.func147.trans (congrArg some (by kernel_rfl))
 f298 := Tryz.func148.trans (congrArg some (by kernel_rfl))
 f299 := Tryz.func149.trans (congrArg some (by kernel_rfl))
 f300 := Tryz.func151.trans (congrArg some (by kernel_rfl))
 f301 := Tryz.func152.trans (congrArg some (by kernel_rfl))
 f328 := Tryz.func161.trans (congrArg some (by kernel_rfl))
 f329 := Tryz.func162.trans (congrArg some (by kernel_rfl))
 f330 := Tryz.func163.trans (congrArg some (by kernel_rfl))
 f331 := Tryz.func164.trans (congrArg some (by kernel_rfl))
 f332 := Tryz.func165.trans (congrArg some (by kernel_rfl))
 f343 := Tryz.func170.trans (congrArg some (by kernel_rfl))
 t0 := Tryz.underlying0
 a0 := Tryz.isAgg0
 z0 := Tryz.sizeOf0
 v0 := Tryz.zeroValue0
 t3 := Tryz.underlying3
 a3 := Tryz.isAgg3
 z3 := Tryz.sizeOf3
 v3 := Tryz.zeroValue3
 t4 := Tryz.underlying4
 a4 := Tryz.isAgg4
 z4 := Tryz.sizeOf4
 v4 := Tryz.zeroValue4
 t5 := Tryz.underlying5
 a5 := Tryz.isAgg5
 z5 := Tryz.sizeOf5
 v5 := Tryz.zeroValue5
 t9 := Tryz.underlying9
 a9 := Tryz.isAgg9
 z9 := Tryz.sizeOf9
 v9 := Tryz.zeroValue9
 t28 := Tryz.underlying62
 a28 := Tryz.isAgg62
 z28 := Tryz.sizeOf62
 v28 := Tryz.zeroValue62
 t46 := Tryz.underlying167
 a46 := Tryz.isAgg167
 z46 := Tryz.sizeOf167
 v46 := Tryz.zeroValue167
 t51 := Tryz.underlying182
 a51 := Tryz.isAgg182
 z51 := Tryz.sizeOf182
 v51 := Tryz.zeroValue182
 t53 := Tryz.underlying184
 a53 := Tryz.isAgg184
 z53 := Tryz.sizeOf184
 v53 := Tryz.zeroValue184
 t131 := Tryz.underlying179
 a131 := Tryz.isAgg179
 z131 := Tryz.sizeOf179
 v131 := Tryz.zeroValue179
 t182 := Tryz.underlying173
 a182 := Tryz.isAgg173
 z182 := Tryz.sizeOf173
 v182 := Tryz.zeroValue173
 t183 := Tryz.underlying174
 a183 := Tryz.isAgg174
 z183 := Tryz.sizeOf174
 v183 := Tryz.zeroValue174
 t218 := Tryz.underlying187
 a218 := Tryz.isAgg187
 z218 := Tryz.sizeOf187
 v218 := Tryz.zeroValue187
 t222 := Tryz.underlying191
 a222 := Tryz.isAgg191
 z222 := Tryz.sizeOf191
 v222 := Tryz.zeroValue191
 t228 := Tryz.underlying194
 a228 := Tryz.isAgg194
 z228 := Tryz.sizeOf194
 v228 := Tryz.zeroValue194
 t229 := Tryz.underlying90
 a229 := Tryz.isAgg90
 z229 := Tryz.sizeOf90
 v229 := Tryz.zeroValue90
def lay20_ren : Ren := ⟨fun | 20 => 45 | n => n,fun | 22 => 62 | 3 => 3 | 4 => 4 | 0 => 0 | n => n,fun n => n⟩
theorem lay20 : Lays2.n20 Tryz.prog lay20_ren where
 mixed := by kernel_rfl
 f20 := Tryz.func45.trans (congrArg some (by kernel_rfl))
 t0 := Tryz.underlying0
 a0 := Tryz.isAgg0
 z0 := Tryz.sizeOf0
 v0 := Tryz.zeroValue0
 t3 := Tryz.underlying3
 a3 := Tryz.isAgg3
 z3 := Tryz.sizeOf3
 v3 := Tryz.zeroValue3
 t4 := Tryz.underlying4
 a4 := Tryz.isAgg4
 z4 := Tryz.sizeOf4
 v4 := Tryz.zeroValue4
 t22 := Tryz.underlying62
 a22 := Tryz.isAgg62
 z22 := Tryz.sizeOf62
 v22 := Tryz.zeroValue62
 i3 := by kernel_rfl
def lay10_ren : Ren := ⟨fun | 10 => 47 | 6 => 80 | n => n,fun | 22 => 62 | 23 => 3 | 25 => 84 | 3 => 3 | 4 => 4 | 0 => 0 | n => n,fun n => n⟩
theorem lay10 : SlLaysH.n10 Tryz.prog lay10_ren where
 mixed := by kernel_rfl
 f6 := ⟨ "slices.IndexFunc[[]int,int]", by decide, Tryz.func80.trans (congrArg some (by kernel_rfl))⟩
 f10 := ⟨ "slices.DeleteFunc[[]int,int]", by decide, Tryz.func47.trans (congrArg some (by kernel_rfl))⟩
 t0 := Tryz.underlying0
 a0 := Tryz.isAgg0
 z0 := Tryz.sizeOf0
 v0 := Tryz.zeroValue0
 t3 := Tryz.underlying3
 a3 := Tryz.isAgg3
 z3 := Tryz.sizeOf3
 v3 := Tryz.zeroValue3
 t4 := Tryz.underlying4
 a4 := Tryz.isAgg4
 z4 := Tryz.sizeOf4
 v4 := Tryz.zeroValue4
 t22 := Tryz.underlying62
 a22 := Tryz.isAgg62
 z22 := Tryz.sizeOf62
 v22 := Tryz.zeroValue62
 a23 := Tryz.isAgg3
 z23 := Tryz.sizeOf3
 t25 := Tryz.underlying84
 a25 := Tryz.isAgg84
 z25 := Tryz.sizeOf84
 v25 := Tryz.zeroValue84
end Go.Proofs.YtifckjhggamefaaGreatDoor
