/- The abstract interpreter's table holds: by the kernel. Written by a program (vxok.py). -/
import Derived.Test.YtifckjhggamefaaDoorVxCfg
import Derived.Test.YtifckjhggamefaaDoorVxLay
import Derived.Test.YtifckjhggamefaaDoorVi
import Derived.Test.YtifckjhggamefaaDoorVf
import Derived.KernelRfl
set_option linter.unusedSimpArgs false
set_option linter.unusedVariables false
set_option linter.unusedSectionVars false
namespace Go.Proofs.YtifckjhggamefaaDoor
open Go Go.Vx
set_option maxRecDepth 100000

theorem tio2 : TiOk Tryd.prog 2 { size := 1, bytes := 8, zero := [.lit (.int .i64 0)], kind := .int .i64 } := tiOk_mk (by kernel_rfl) (by kernel_rfl) (by kernel_rfl) (by kernel_rfl) (by kernel_rfl) ((by show Tryd.prog.underlying 2 = some _; kernel_rfl))
theorem tio3 : TiOk Tryd.prog 3 { size := 1, bytes := 8, zero := [.lit (.int .i64 0)], kind := .int .i64 } := tiOk_mk (by kernel_rfl) (by kernel_rfl) (by kernel_rfl) (by kernel_rfl) (by kernel_rfl) ((by show Tryd.prog.underlying 3 = some _; kernel_rfl))
theorem tio4 : TiOk Tryd.prog 4 { size := 1, bytes := 1, zero := [.lit (.bool false)], kind := .bool } := tiOk_mk (by kernel_rfl) (by kernel_rfl) (by kernel_rfl) (by kernel_rfl) (by kernel_rfl) ((by show Tryd.prog.underlying 4 = some _; kernel_rfl))
theorem tio5 : TiOk Tryd.prog 5 { size := 1, bytes := 1, zero := [.lit (.int .u8 0)], kind := .int .u8 } := tiOk_mk (by kernel_rfl) (by kernel_rfl) (by kernel_rfl) (by kernel_rfl) (by kernel_rfl) ((by show Tryd.prog.underlying 5 = some _; kernel_rfl))
theorem tio6 : TiOk Tryd.prog 6 { size := 1, bytes := 1, zero := [.lit (.int .u8 0)], kind := .int .u8 } := tiOk_mk (by kernel_rfl) (by kernel_rfl) (by kernel_rfl) (by kernel_rfl) (by kernel_rfl) ((by show Tryd.prog.underlying 6 = some _; kernel_rfl))
theorem tio7 : TiOk Tryd.prog 7 { size := 4, bytes := 24, zero := [.lit (.int .i64 0), .lit (.int .i64 0), .lit (.bool false), .lit (.int .u8 0)], kind := .struct [(0, 2), (1, 3), (2, 4), (3, 6)] } := tiOk_mk (by kernel_rfl) (by kernel_rfl) (by kernel_rfl) (by kernel_rfl) (by kernel_rfl) (kind_struct (by kernel_rfl) (by kernel_rfl))
theorem tio8 : TiOk Tryd.prog 8 { size := 4, bytes := 24, zero := [.lit (.int .i64 0), .lit (.int .i64 0), .lit (.bool false), .lit (.int .u8 0)], kind := .struct [(0, 2), (1, 3), (2, 4), (3, 6)] } := tiOk_mk (by kernel_rfl) (by kernel_rfl) (by kernel_rfl) (by kernel_rfl) (by kernel_rfl) (kind_struct (by kernel_rfl) (by kernel_rfl))
theorem tio9 : TiOk Tryd.prog 9 { size := 1, bytes := 16, zero := [.lit (.string ⟨#[]⟩)], kind := .str } := tiOk_mk (by kernel_rfl) (by kernel_rfl) (by kernel_rfl) (by kernel_rfl) (by kernel_rfl) ((by show Tryd.prog.underlying 9 = some _; kernel_rfl))
theorem tio10 : TiOk Tryd.prog 10 { size := 1, bytes := 16, zero := [.lit (.string ⟨#[]⟩)], kind := .str } := tiOk_mk (by kernel_rfl) (by kernel_rfl) (by kernel_rfl) (by kernel_rfl) (by kernel_rfl) ((by show Tryd.prog.underlying 10 = some _; kernel_rfl))
theorem tio11 : TiOk Tryd.prog 11 { size := 1, bytes := 16, zero := [.lit (.string ⟨#[]⟩)], kind := .str } := tiOk_mk (by kernel_rfl) (by kernel_rfl) (by kernel_rfl) (by kernel_rfl) (by kernel_rfl) ((by show Tryd.prog.underlying 11 = some _; kernel_rfl))
theorem tio12 : TiOk Tryd.prog 12 { size := 1, bytes := 8, zero := [.lit (.int .u64 0)], kind := .int .u64 } := tiOk_mk (by kernel_rfl) (by kernel_rfl) (by kernel_rfl) (by kernel_rfl) (by kernel_rfl) ((by show Tryd.prog.underlying 12 = some _; kernel_rfl))
theorem tio13 : TiOk Tryd.prog 13 { size := 2, bytes := 24, zero := [.lit (.string ⟨#[]⟩), .lit (.int .u64 0)], kind := .struct [(0, 9), (1, 12)] } := tiOk_mk (by kernel_rfl) (by kernel_rfl) (by kernel_rfl) (by kernel_rfl) (by kernel_rfl) (kind_struct (by kernel_rfl) (by kernel_rfl))
theorem tio14 : TiOk Tryd.prog 14 { size := 2, bytes := 24, zero := [.lit (.string ⟨#[]⟩), .lit (.int .u64 0)], kind := .struct [(0, 9), (1, 12)] } := tiOk_mk (by kernel_rfl) (by kernel_rfl) (by kernel_rfl) (by kernel_rfl) (by kernel_rfl) (kind_struct (by kernel_rfl) (by kernel_rfl))
theorem tio15 : TiOk Tryd.prog 15 { size := 1, bytes := 8, zero := [.lit (.pointer none)], kind := .other } := tiOk_mk (by kernel_rfl) (by kernel_rfl) (by kernel_rfl) (by kernel_rfl) (by kernel_rfl) (kind_other (by kernel_rfl))
theorem tio16 : TiOk Tryd.prog 16 { size := 1, bytes := 8, zero := [.lit (.pointer none)], kind := .other } := tiOk_mk (by kernel_rfl) (by kernel_rfl) (by kernel_rfl) (by kernel_rfl) (by kernel_rfl) (kind_other (by kernel_rfl))
theorem tio17 : TiOk Tryd.prog 17 { size := 1, bytes := 8, zero := [.lit (.pointer none)], kind := .other } := tiOk_mk (by kernel_rfl) (by kernel_rfl) (by kernel_rfl) (by kernel_rfl) (by kernel_rfl) (kind_other (by kernel_rfl))
theorem tio18 : TiOk Tryd.prog 18 { size := 1, bytes := 8, zero := [.lit (.pointer none)], kind := .struct [(0, 17)] } := tiOk_mk (by kernel_rfl) (by kernel_rfl) (by kernel_rfl) (by kernel_rfl) (by kernel_rfl) (kind_struct (by kernel_rfl) (by kernel_rfl))
theorem tio19 : TiOk Tryd.prog 19 { size := 1, bytes := 8, zero := [.lit (.pointer none)], kind := .struct [(0, 17)] } := tiOk_mk (by kernel_rfl) (by kernel_rfl) (by kernel_rfl) (by kernel_rfl) (by kernel_rfl) (kind_struct (by kernel_rfl) (by kernel_rfl))
theorem tio21 : TiOk Tryd.prog 21 { size := 1, bytes := 4, zero := [.lit (.int .i32 0)], kind := .int .i32 } := tiOk_mk (by kernel_rfl) (by kernel_rfl) (by kernel_rfl) (by kernel_rfl) (by kernel_rfl) ((by show Tryd.prog.underlying 21 = some _; kernel_rfl))
theorem tio22 : TiOk Tryd.prog 22 { size := 1, bytes := 24, zero := [.nil], kind := .slice 57 } := tiOk_mk (by kernel_rfl) (by kernel_rfl) (by kernel_rfl) (by kernel_rfl) (by kernel_rfl) ((by show Tryd.prog.underlying 22 = some _; kernel_rfl))
theorem tio23 : TiOk Tryd.prog 23 { size := 1, bytes := 24, zero := [.nil], kind := .slice 60 } := tiOk_mk (by kernel_rfl) (by kernel_rfl) (by kernel_rfl) (by kernel_rfl) (by kernel_rfl) ((by show Tryd.prog.underlying 23 = some _; kernel_rfl))
theorem tio24 : TiOk Tryd.prog 24 { size := 2, bytes := 48, zero := [.nil, .nil], kind := .struct [(0, 22), (1, 23)] } := tiOk_mk (by kernel_rfl) (by kernel_rfl) (by kernel_rfl) (by kernel_rfl) (by kernel_rfl) (kind_struct (by kernel_rfl) (by kernel_rfl))
theorem tio25 : TiOk Tryd.prog 25 { size := 2, bytes := 48, zero := [.nil, .nil], kind := .struct [(0, 22), (1, 23)] } := tiOk_mk (by kernel_rfl) (by kernel_rfl) (by kernel_rfl) (by kernel_rfl) (by kernel_rfl) (kind_struct (by kernel_rfl) (by kernel_rfl))
theorem tio26 : TiOk Tryd.prog 26 { size := 1, bytes := 24, zero := [.nil], kind := .slice 29 } := tiOk_mk (by kernel_rfl) (by kernel_rfl) (by kernel_rfl) (by kernel_rfl) (by kernel_rfl) ((by show Tryd.prog.underlying 26 = some _; kernel_rfl))
theorem tio27 : TiOk Tryd.prog 27 { size := 1, bytes := 24, zero := [.nil], kind := .slice 70 } := tiOk_mk (by kernel_rfl) (by kernel_rfl) (by kernel_rfl) (by kernel_rfl) (by kernel_rfl) ((by show Tryd.prog.underlying 27 = some _; kernel_rfl))
theorem tio28 : TiOk Tryd.prog 28 { size := 5, bytes := 72, zero := [.lit (.int .i64 0), .lit (.int .i64 0), .lit (.int .i64 0), .nil, .nil], kind := .struct [(0, 3), (1, 3), (2, 3), (3, 26), (4, 27)] } := tiOk_mk (by kernel_rfl) (by kernel_rfl) (by kernel_rfl) (by kernel_rfl) (by kernel_rfl) (kind_struct (by kernel_rfl) (by kernel_rfl))
theorem tio29 : TiOk Tryd.prog 29 { size := 5, bytes := 72, zero := [.lit (.int .i64 0), .lit (.int .i64 0), .lit (.int .i64 0), .nil, .nil], kind := .struct [(0, 3), (1, 3), (2, 3), (3, 26), (4, 27)] } := tiOk_mk (by kernel_rfl) (by kernel_rfl) (by kernel_rfl) (by kernel_rfl) (by kernel_rfl) (kind_struct (by kernel_rfl) (by kernel_rfl))
theorem tio32 : TiOk Tryd.prog 32 { size := 1, bytes := 8, zero := [.lit (.pointer none)], kind := .other } := tiOk_mk (by kernel_rfl) (by kernel_rfl) (by kernel_rfl) (by kernel_rfl) (by kernel_rfl) (kind_other (by kernel_rfl))
theorem tio33 : TiOk Tryd.prog 33 { size := 1, bytes := 8, zero := [.lit (.int .i64 0)], kind := .struct [(0, 3)] } := tiOk_mk (by kernel_rfl) (by kernel_rfl) (by kernel_rfl) (by kernel_rfl) (by kernel_rfl) (kind_struct (by kernel_rfl) (by kernel_rfl))
theorem tio34 : TiOk Tryd.prog 34 { size := 1, bytes := 8, zero := [.lit (.int .i64 0)], kind := .struct [(0, 3)] } := tiOk_mk (by kernel_rfl) (by kernel_rfl) (by kernel_rfl) (by kernel_rfl) (by kernel_rfl) (kind_struct (by kernel_rfl) (by kernel_rfl))
theorem tio36 : TiOk Tryd.prog 36 { size := 1, bytes := 8, zero := [.lit (.int .i64 0)], kind := .int .i64 } := tiOk_mk (by kernel_rfl) (by kernel_rfl) (by kernel_rfl) (by kernel_rfl) (by kernel_rfl) ((by show Tryd.prog.underlying 36 = some _; kernel_rfl))
theorem tio42 : TiOk Tryd.prog 42 { size := 1, bytes := 24, zero := [.nil], kind := .slice 3 } := tiOk_mk (by kernel_rfl) (by kernel_rfl) (by kernel_rfl) (by kernel_rfl) (by kernel_rfl) ((by show Tryd.prog.underlying 42 = some _; kernel_rfl))
theorem tio47 : TiOk Tryd.prog 47 { size := 1, bytes := 24, zero := [.nil], kind := .slice 50 } := tiOk_mk (by kernel_rfl) (by kernel_rfl) (by kernel_rfl) (by kernel_rfl) (by kernel_rfl) ((by show Tryd.prog.underlying 47 = some _; kernel_rfl))
theorem tio48 : TiOk Tryd.prog 48 { size := 1, bytes := 24, zero := [.nil], kind := .slice 77 } := tiOk_mk (by kernel_rfl) (by kernel_rfl) (by kernel_rfl) (by kernel_rfl) (by kernel_rfl) ((by show Tryd.prog.underlying 48 = some _; kernel_rfl))
theorem tio49 : TiOk Tryd.prog 49 { size := 5, bytes := 72, zero := [.lit (.int .i64 0), .lit (.int .i64 0), .lit (.int .i64 0), .nil, .nil], kind := .struct [(0, 3), (1, 3), (2, 3), (3, 47), (4, 48)] } := tiOk_mk (by kernel_rfl) (by kernel_rfl) (by kernel_rfl) (by kernel_rfl) (by kernel_rfl) (kind_struct (by kernel_rfl) (by kernel_rfl))
theorem tio50 : TiOk Tryd.prog 50 { size := 5, bytes := 72, zero := [.lit (.int .i64 0), .lit (.int .i64 0), .lit (.int .i64 0), .nil, .nil], kind := .struct [(0, 3), (1, 3), (2, 3), (3, 47), (4, 48)] } := tiOk_mk (by kernel_rfl) (by kernel_rfl) (by kernel_rfl) (by kernel_rfl) (by kernel_rfl) (kind_struct (by kernel_rfl) (by kernel_rfl))
theorem tio53 : TiOk Tryd.prog 53 { size := 1, bytes := 24, zero := [.nil], kind := .slice 55 } := tiOk_mk (by kernel_rfl) (by kernel_rfl) (by kernel_rfl) (by kernel_rfl) (by kernel_rfl) ((by show Tryd.prog.underlying 53 = some _; kernel_rfl))
theorem tio54 : TiOk Tryd.prog 54 { size := 3, bytes := 40, zero := [.lit (.int .i64 0), .lit (.int .i64 0), .nil], kind := .struct [(0, 3), (1, 3), (2, 53)] } := tiOk_mk (by kernel_rfl) (by kernel_rfl) (by kernel_rfl) (by kernel_rfl) (by kernel_rfl) (kind_struct (by kernel_rfl) (by kernel_rfl))
theorem tio55 : TiOk Tryd.prog 55 { size := 3, bytes := 40, zero := [.lit (.int .i64 0), .lit (.int .i64 0), .nil], kind := .struct [(0, 3), (1, 3), (2, 53)] } := tiOk_mk (by kernel_rfl) (by kernel_rfl) (by kernel_rfl) (by kernel_rfl) (by kernel_rfl) (kind_struct (by kernel_rfl) (by kernel_rfl))
theorem tio56 : TiOk Tryd.prog 56 { size := 5, bytes := 56, zero := [.lit (.int .i64 0), .lit (.int .i64 0), .lit (.int .i64 0), .lit (.int .i64 0), .nil], kind := .struct [(0, 3), (1, 3), (2, 55)] } := tiOk_mk (by kernel_rfl) (by kernel_rfl) (by kernel_rfl) (by kernel_rfl) (by kernel_rfl) (kind_struct (by kernel_rfl) (by kernel_rfl))
theorem tio57 : TiOk Tryd.prog 57 { size := 5, bytes := 56, zero := [.lit (.int .i64 0), .lit (.int .i64 0), .lit (.int .i64 0), .lit (.int .i64 0), .nil], kind := .struct [(0, 3), (1, 3), (2, 55)] } := tiOk_mk (by kernel_rfl) (by kernel_rfl) (by kernel_rfl) (by kernel_rfl) (by kernel_rfl) (kind_struct (by kernel_rfl) (by kernel_rfl))
theorem tio59 : TiOk Tryd.prog 59 { size := 6, bytes := 64, zero := [.lit (.int .i64 0), .lit (.int .i64 0), .lit (.bool false), .lit (.int .i64 0), .lit (.int .i64 0), .nil], kind := .struct [(0, 3), (1, 3), (2, 4), (3, 55)] } := tiOk_mk (by kernel_rfl) (by kernel_rfl) (by kernel_rfl) (by kernel_rfl) (by kernel_rfl) (kind_struct (by kernel_rfl) (by kernel_rfl))
theorem tio60 : TiOk Tryd.prog 60 { size := 6, bytes := 64, zero := [.lit (.int .i64 0), .lit (.int .i64 0), .lit (.bool false), .lit (.int .i64 0), .lit (.int .i64 0), .nil], kind := .struct [(0, 3), (1, 3), (2, 4), (3, 55)] } := tiOk_mk (by kernel_rfl) (by kernel_rfl) (by kernel_rfl) (by kernel_rfl) (by kernel_rfl) (kind_struct (by kernel_rfl) (by kernel_rfl))
theorem tio69 : TiOk Tryd.prog 69 { size := 3, bytes := 24, zero := [.lit (.int .i64 0), .lit (.int .i64 0), .lit (.int .i64 0)], kind := .struct [(0, 3), (1, 3), (2, 3)] } := tiOk_mk (by kernel_rfl) (by kernel_rfl) (by kernel_rfl) (by kernel_rfl) (by kernel_rfl) (kind_struct (by kernel_rfl) (by kernel_rfl))
theorem tio70 : TiOk Tryd.prog 70 { size := 3, bytes := 24, zero := [.lit (.int .i64 0), .lit (.int .i64 0), .lit (.int .i64 0)], kind := .struct [(0, 3), (1, 3), (2, 3)] } := tiOk_mk (by kernel_rfl) (by kernel_rfl) (by kernel_rfl) (by kernel_rfl) (by kernel_rfl) (kind_struct (by kernel_rfl) (by kernel_rfl))
theorem tio77 : TiOk Tryd.prog 77 { size := 3, bytes := 24, zero := [.lit (.int .i64 0), .lit (.int .i64 0), .lit (.int .i64 0)], kind := .struct [(0, 3), (1, 3), (2, 3)] } := tiOk_mk (by kernel_rfl) (by kernel_rfl) (by kernel_rfl) (by kernel_rfl) (by kernel_rfl) (kind_struct (by kernel_rfl) (by kernel_rfl))
theorem tio79 : TiOk Tryd.prog 79 { size := 1, bytes := 24, zero := [.nil], kind := .slice 82 } := tiOk_mk (by kernel_rfl) (by kernel_rfl) (by kernel_rfl) (by kernel_rfl) (by kernel_rfl) ((by show Tryd.prog.underlying 79 = some _; kernel_rfl))
theorem tio81 : TiOk Tryd.prog 81 { size := 2, bytes := 16, zero := [.lit (.int .i64 0), .lit (.int .i64 0)], kind := .struct [(0, 3), (1, 3)] } := tiOk_mk (by kernel_rfl) (by kernel_rfl) (by kernel_rfl) (by kernel_rfl) (by kernel_rfl) (kind_struct (by kernel_rfl) (by kernel_rfl))
theorem tio82 : TiOk Tryd.prog 82 { size := 2, bytes := 16, zero := [.lit (.int .i64 0), .lit (.int .i64 0)], kind := .struct [(0, 3), (1, 3)] } := tiOk_mk (by kernel_rfl) (by kernel_rfl) (by kernel_rfl) (by kernel_rfl) (by kernel_rfl) (kind_struct (by kernel_rfl) (by kernel_rfl))
theorem tio86 : TiOk Tryd.prog 86 { size := 11, bytes := 176, zero := [.lit (.string ⟨#[]⟩), .lit (.string ⟨#[]⟩), .lit (.string ⟨#[]⟩), .lit (.string ⟨#[]⟩), .lit (.string ⟨#[]⟩), .lit (.string ⟨#[]⟩), .lit (.string ⟨#[]⟩), .lit (.string ⟨#[]⟩), .lit (.string ⟨#[]⟩), .lit (.string ⟨#[]⟩), .lit (.string ⟨#[]⟩)], kind := .array 11 9 } := tiOk_mk (by kernel_rfl) (by kernel_rfl) (by kernel_rfl) (by kernel_rfl) (by kernel_rfl) ((by show Tryd.prog.underlying 86 = some _; kernel_rfl))
theorem tio92 : TiOk Tryd.prog 92 { size := 1, bytes := 24, zero := [.nil], kind := .slice 4 } := tiOk_mk (by kernel_rfl) (by kernel_rfl) (by kernel_rfl) (by kernel_rfl) (by kernel_rfl) ((by show Tryd.prog.underlying 92 = some _; kernel_rfl))
theorem tio101 : TiOk Tryd.prog 101 { size := 1, bytes := 8, zero := [.lit (.int .u64 0)], kind := .int .u64 } := tiOk_mk (by kernel_rfl) (by kernel_rfl) (by kernel_rfl) (by kernel_rfl) (by kernel_rfl) ((by show Tryd.prog.underlying 101 = some _; kernel_rfl))
theorem tio107 : TiOk Tryd.prog 107 { size := 1, bytes := 8, zero := [.lit (.int .i64 0)], kind := .int .i64 } := tiOk_mk (by kernel_rfl) (by kernel_rfl) (by kernel_rfl) (by kernel_rfl) (by kernel_rfl) ((by show Tryd.prog.underlying 107 = some _; kernel_rfl))
theorem tio116 : TiOk Tryd.prog 116 { size := 1, bytes := 4, zero := [.lit (.int .u32 0)], kind := .int .u32 } := tiOk_mk (by kernel_rfl) (by kernel_rfl) (by kernel_rfl) (by kernel_rfl) (by kernel_rfl) ((by show Tryd.prog.underlying 116 = some _; kernel_rfl))
theorem tio118 : TiOk Tryd.prog 118 { size := 1, bytes := 8, zero := [.lit (.int .u64 0)], kind := .int .u64 } := tiOk_mk (by kernel_rfl) (by kernel_rfl) (by kernel_rfl) (by kernel_rfl) (by kernel_rfl) ((by show Tryd.prog.underlying 118 = some _; kernel_rfl))
theorem tio121 : TiOk Tryd.prog 121 { size := 1, bytes := 8, zero := [.lit (.int .u64 0)], kind := .int .u64 } := tiOk_mk (by kernel_rfl) (by kernel_rfl) (by kernel_rfl) (by kernel_rfl) (by kernel_rfl) ((by show Tryd.prog.underlying 121 = some _; kernel_rfl))
theorem tio125 : TiOk Tryd.prog 125 { size := 1, bytes := 8, zero := [.lit (.pointer none)], kind := .other } := tiOk_mk (by kernel_rfl) (by kernel_rfl) (by kernel_rfl) (by kernel_rfl) (by kernel_rfl) (kind_other (by kernel_rfl))
theorem tio129 : TiOk Tryd.prog 129 { size := 1, bytes := 8, zero := [.lit (.pointer none)], kind := .other } := tiOk_mk (by kernel_rfl) (by kernel_rfl) (by kernel_rfl) (by kernel_rfl) (by kernel_rfl) (kind_other (by kernel_rfl))
theorem tio131 : TiOk Tryd.prog 131 { size := 4, bytes := 40, zero := [.lit (.string ⟨#[]⟩), .lit (.int .i64 0), .lit (.int .i64 0), .lit (.int .i64 0)], kind := .struct [(0, 9), (1, 3), (2, 3), (3, 3)] } := tiOk_mk (by kernel_rfl) (by kernel_rfl) (by kernel_rfl) (by kernel_rfl) (by kernel_rfl) (kind_struct (by kernel_rfl) (by kernel_rfl))
theorem tio132 : TiOk Tryd.prog 132 { size := 4, bytes := 40, zero := [.lit (.string ⟨#[]⟩), .lit (.int .i64 0), .lit (.int .i64 0), .lit (.int .i64 0)], kind := .struct [(0, 9), (1, 3), (2, 3), (3, 3)] } := tiOk_mk (by kernel_rfl) (by kernel_rfl) (by kernel_rfl) (by kernel_rfl) (by kernel_rfl) (kind_struct (by kernel_rfl) (by kernel_rfl))
theorem tio133 : TiOk Tryd.prog 133 { size := 60, bytes := 600, zero := [.lit (.string ⟨#[]⟩), .lit (.int .i64 0), .lit (.int .i64 0), .lit (.int .i64 0), .lit (.string ⟨#[]⟩), .lit (.int .i64 0), .lit (.int .i64 0), .lit (.int .i64 0), .lit (.string ⟨#[]⟩), .lit (.int .i64 0), .lit (.int .i64 0), .lit (.int .i64 0), .lit (.string ⟨#[]⟩), .lit (.int .i64 0), .lit (.int .i64 0), .lit (.int .i64 0), .lit (.string ⟨#[]⟩), .lit (.int .i64 0), .lit (.int .i64 0), .lit (.int .i64 0), .lit (.string ⟨#[]⟩), .lit (.int .i64 0), .lit (.int .i64 0), .lit (.int .i64 0), .lit (.string ⟨#[]⟩), .lit (.int .i64 0), .lit (.int .i64 0), .lit (.int .i64 0), .lit (.string ⟨#[]⟩), .lit (.int .i64 0), .lit (.int .i64 0), .lit (.int .i64 0), .lit (.string ⟨#[]⟩), .lit (.int .i64 0), .lit (.int .i64 0), .lit (.int .i64 0), .lit (.string ⟨#[]⟩), .lit (.int .i64 0), .lit (.int .i64 0), .lit (.int .i64 0), .lit (.string ⟨#[]⟩), .lit (.int .i64 0), .lit (.int .i64 0), .lit (.int .i64 0), .lit (.string ⟨#[]⟩), .lit (.int .i64 0), .lit (.int .i64 0), .lit (.int .i64 0), .lit (.string ⟨#[]⟩), .lit (.int .i64 0), .lit (.int .i64 0), .lit (.int .i64 0), .lit (.string ⟨#[]⟩), .lit (.int .i64 0), .lit (.int .i64 0), .lit (.int .i64 0), .lit (.string ⟨#[]⟩), .lit (.int .i64 0), .lit (.int .i64 0), .lit (.int .i64 0)], kind := .array 15 132 } := tiOk_mk (by kernel_rfl) (by kernel_rfl) (by kernel_rfl) (by kernel_rfl) (by kernel_rfl) ((by show Tryd.prog.underlying 133 = some _; kernel_rfl))
theorem tio137 : TiOk Tryd.prog 137 { size := 4, bytes := 40, zero := [.lit (.pointer none), .lit (.pointer none), .lit (.pointer none), .lit (.string ⟨#[]⟩)], kind := .struct [(0, 17), (1, 17), (2, 17), (3, 9)] } := tiOk_mk (by kernel_rfl) (by kernel_rfl) (by kernel_rfl) (by kernel_rfl) (by kernel_rfl) (kind_struct (by kernel_rfl) (by kernel_rfl))
theorem tio138 : TiOk Tryd.prog 138 { size := 4, bytes := 40, zero := [.lit (.pointer none), .lit (.pointer none), .lit (.pointer none), .lit (.string ⟨#[]⟩)], kind := .struct [(0, 17), (1, 17), (2, 17), (3, 9)] } := tiOk_mk (by kernel_rfl) (by kernel_rfl) (by kernel_rfl) (by kernel_rfl) (by kernel_rfl) (kind_struct (by kernel_rfl) (by kernel_rfl))
theorem tio139 : TiOk Tryd.prog 139 { size := 0, bytes := 0, zero := [], kind := .array 0 16 } := tiOk_mk (by kernel_rfl) (by kernel_rfl) (by kernel_rfl) (by kernel_rfl) (by kernel_rfl) ((by show Tryd.prog.underlying 139 = some _; kernel_rfl))
theorem tio140 : TiOk Tryd.prog 140 { size := 0, bytes := 0, zero := [], kind := .struct [(0, 139)] } := tiOk_mk (by kernel_rfl) (by kernel_rfl) (by kernel_rfl) (by kernel_rfl) (by kernel_rfl) (kind_struct (by kernel_rfl) (by kernel_rfl))
theorem tio141 : TiOk Tryd.prog 141 { size := 0, bytes := 0, zero := [], kind := .struct [(0, 139)] } := tiOk_mk (by kernel_rfl) (by kernel_rfl) (by kernel_rfl) (by kernel_rfl) (by kernel_rfl) (kind_struct (by kernel_rfl) (by kernel_rfl))
theorem tio143 : TiOk Tryd.prog 143 { size := 1, bytes := 1, zero := [.lit (.int .u8 0)], kind := .int .u8 } := tiOk_mk (by kernel_rfl) (by kernel_rfl) (by kernel_rfl) (by kernel_rfl) (by kernel_rfl) ((by show Tryd.prog.underlying 143 = some _; kernel_rfl))
theorem tio144 : TiOk Tryd.prog 144 { size := 1, bytes := 1, zero := [.lit (.int .u8 0)], kind := .int .u8 } := tiOk_mk (by kernel_rfl) (by kernel_rfl) (by kernel_rfl) (by kernel_rfl) (by kernel_rfl) ((by show Tryd.prog.underlying 144 = some _; kernel_rfl))
theorem tio146 : TiOk Tryd.prog 146 { size := 1, bytes := 8, zero := [.lit (.pointer none)], kind := .other } := tiOk_mk (by kernel_rfl) (by kernel_rfl) (by kernel_rfl) (by kernel_rfl) (by kernel_rfl) (kind_other (by kernel_rfl))
theorem tio147 : TiOk Tryd.prog 147 { size := 1, bytes := 4, zero := [.lit (.int .i32 0)], kind := .int .i32 } := tiOk_mk (by kernel_rfl) (by kernel_rfl) (by kernel_rfl) (by kernel_rfl) (by kernel_rfl) ((by show Tryd.prog.underlying 147 = some _; kernel_rfl))
theorem tio148 : TiOk Tryd.prog 148 { size := 1, bytes := 4, zero := [.lit (.int .i32 0)], kind := .int .i32 } := tiOk_mk (by kernel_rfl) (by kernel_rfl) (by kernel_rfl) (by kernel_rfl) (by kernel_rfl) ((by show Tryd.prog.underlying 148 = some _; kernel_rfl))
theorem ti_ok : ∀ t i, tiT t = some i → TiOk Tryd.prog t i := by
  intro t i h
  unfold tiT at h
  split at h
  · obtain rfl := Option.some.inj h; exact tio2
  · obtain rfl := Option.some.inj h; exact tio3
  · obtain rfl := Option.some.inj h; exact tio4
  · obtain rfl := Option.some.inj h; exact tio5
  · obtain rfl := Option.some.inj h; exact tio6
  · obtain rfl := Option.some.inj h; exact tio7
  · obtain rfl := Option.some.inj h; exact tio8
  · obtain rfl := Option.some.inj h; exact tio9
  · obtain rfl := Option.some.inj h; exact tio10
  · obtain rfl := Option.some.inj h; exact tio11
  · obtain rfl := Option.some.inj h; exact tio12
  · obtain rfl := Option.some.inj h; exact tio13
  · obtain rfl := Option.some.inj h; exact tio14
  · obtain rfl := Option.some.inj h; exact tio15
  · obtain rfl := Option.some.inj h; exact tio16
  · obtain rfl := Option.some.inj h; exact tio17
  · obtain rfl := Option.some.inj h; exact tio18
  · obtain rfl := Option.some.inj h; exact tio19
  · obtain rfl := Option.some.inj h; exact tio21
  · obtain rfl := Option.some.inj h; exact tio22
  · obtain rfl := Option.some.inj h; exact tio23
  · obtain rfl := Option.some.inj h; exact tio24
  · obtain rfl := Option.some.inj h; exact tio25
  · obtain rfl := Option.some.inj h; exact tio26
  · obtain rfl := Option.some.inj h; exact tio27
  · obtain rfl := Option.some.inj h; exact tio28
  · obtain rfl := Option.some.inj h; exact tio29
  · obtain rfl := Option.some.inj h; exact tio32
  · obtain rfl := Option.some.inj h; exact tio33
  · obtain rfl := Option.some.inj h; exact tio34
  · obtain rfl := Option.some.inj h; exact tio36
  · obtain rfl := Option.some.inj h; exact tio42
  · obtain rfl := Option.some.inj h; exact tio47
  · obtain rfl := Option.some.inj h; exact tio48
  · obtain rfl := Option.some.inj h; exact tio49
  · obtain rfl := Option.some.inj h; exact tio50
  · obtain rfl := Option.some.inj h; exact tio53
  · obtain rfl := Option.some.inj h; exact tio54
  · obtain rfl := Option.some.inj h; exact tio55
  · obtain rfl := Option.some.inj h; exact tio56
  · obtain rfl := Option.some.inj h; exact tio57
  · obtain rfl := Option.some.inj h; exact tio59
  · obtain rfl := Option.some.inj h; exact tio60
  · obtain rfl := Option.some.inj h; exact tio69
  · obtain rfl := Option.some.inj h; exact tio70
  · obtain rfl := Option.some.inj h; exact tio77
  · obtain rfl := Option.some.inj h; exact tio79
  · obtain rfl := Option.some.inj h; exact tio81
  · obtain rfl := Option.some.inj h; exact tio82
  · obtain rfl := Option.some.inj h; exact tio86
  · obtain rfl := Option.some.inj h; exact tio92
  · obtain rfl := Option.some.inj h; exact tio101
  · obtain rfl := Option.some.inj h; exact tio107
  · obtain rfl := Option.some.inj h; exact tio116
  · obtain rfl := Option.some.inj h; exact tio118
  · obtain rfl := Option.some.inj h; exact tio121
  · obtain rfl := Option.some.inj h; exact tio125
  · obtain rfl := Option.some.inj h; exact tio129
  · obtain rfl := Option.some.inj h; exact tio131
  · obtain rfl := Option.some.inj h; exact tio132
  · obtain rfl := Option.some.inj h; exact tio133
  · obtain rfl := Option.some.inj h; exact tio137
  · obtain rfl := Option.some.inj h; exact tio138
  · obtain rfl := Option.some.inj h; exact tio139
  · obtain rfl := Option.some.inj h; exact tio140
  · obtain rfl := Option.some.inj h; exact tio141
  · obtain rfl := Option.some.inj h; exact tio143
  · obtain rfl := Option.some.inj h; exact tio144
  · obtain rfl := Option.some.inj h; exact tio146
  · obtain rfl := Option.some.inj h; exact tio147
  · obtain rfl := Option.some.inj h; exact tio148
  · cases h
theorem fno3 : Tryd.prog.funcs[3]? = some Tryd.f3 ∧ (Tryd.f3.name == "runtime.NumGoroutine") = false ∧ Tryd.f3.body.isSome = true := ⟨Tryd.func3, by kernel_rfl, by kernel_rfl⟩
theorem fnc3 : (match Tryd.f3.body with | some c => codeOk (cxT 3) c && noDup (loopIds c) | none => true) = true := by kernel_rfl
theorem fno4 : Tryd.prog.funcs[4]? = some Tryd.f4 ∧ (Tryd.f4.name == "runtime.NumGoroutine") = false ∧ Tryd.f4.body.isSome = true := ⟨Tryd.func4, by kernel_rfl, by kernel_rfl⟩
theorem fnc4 : (match Tryd.f4.body with | some c => codeOk (cxT 4) c && noDup (loopIds c) | none => true) = true := by kernel_rfl
theorem fno5 : Tryd.prog.funcs[5]? = some Tryd.f5 ∧ (Tryd.f5.name == "runtime.NumGoroutine") = false ∧ Tryd.f5.body.isSome = true := ⟨Tryd.func5, by kernel_rfl, by kernel_rfl⟩
theorem fnc5 : (match Tryd.f5.body with | some c => codeOk (cxT 5) c && noDup (loopIds c) | none => true) = true := by kernel_rfl
theorem fno6 : Tryd.prog.funcs[6]? = some Tryd.f6 ∧ (Tryd.f6.name == "runtime.NumGoroutine") = false ∧ Tryd.f6.body.isSome = true := ⟨Tryd.func6, by kernel_rfl, by kernel_rfl⟩
theorem fnc6 : (match Tryd.f6.body with | some c => codeOk (cxT 6) c && noDup (loopIds c) | none => true) = true := by kernel_rfl
theorem fno7 : Tryd.prog.funcs[7]? = some Tryd.f7 ∧ (Tryd.f7.name == "runtime.NumGoroutine") = false ∧ Tryd.f7.body.isSome = true := ⟨Tryd.func7, by kernel_rfl, by kernel_rfl⟩
theorem fnc7 : (match Tryd.f7.body with | some c => codeOk (cxT 7) c && noDup (loopIds c) | none => true) = true := by kernel_rfl
theorem fno8 : Tryd.prog.funcs[8]? = some Tryd.f8 ∧ (Tryd.f8.name == "runtime.NumGoroutine") = false ∧ Tryd.f8.body.isSome = true := ⟨Tryd.func8, by kernel_rfl, by kernel_rfl⟩
theorem fnc8 : (match Tryd.f8.body with | some c => codeOk (cxT 8) c && noDup (loopIds c) | none => true) = true := by kernel_rfl
theorem fno9 : Tryd.prog.funcs[9]? = some Tryd.f9 ∧ (Tryd.f9.name == "runtime.NumGoroutine") = false ∧ Tryd.f9.body.isSome = true := ⟨Tryd.func9, by kernel_rfl, by kernel_rfl⟩
theorem fnc9 : (match Tryd.f9.body with | some c => codeOk (cxT 9) c && noDup (loopIds c) | none => true) = true := by kernel_rfl
theorem fno10 : Tryd.prog.funcs[10]? = some Tryd.f10 ∧ (Tryd.f10.name == "runtime.NumGoroutine") = false ∧ Tryd.f10.body.isSome = true := ⟨Tryd.func10, by kernel_rfl, by kernel_rfl⟩
theorem fnc10 : (match Tryd.f10.body with | some c => codeOk (cxT 10) c && noDup (loopIds c) | none => true) = true := by kernel_rfl
theorem fno11 : Tryd.prog.funcs[11]? = some Tryd.f11 ∧ (Tryd.f11.name == "runtime.NumGoroutine") = false ∧ Tryd.f11.body.isSome = true := ⟨Tryd.func11, by kernel_rfl, by kernel_rfl⟩
theorem fnc11 : (match Tryd.f11.body with | some c => codeOk (cxT 11) c && noDup (loopIds c) | none => true) = true := by kernel_rfl
theorem fno12 : Tryd.prog.funcs[12]? = some Tryd.f12 ∧ (Tryd.f12.name == "runtime.NumGoroutine") = false ∧ Tryd.f12.body.isSome = true := ⟨Tryd.func12, by kernel_rfl, by kernel_rfl⟩
theorem fnc12 : (match Tryd.f12.body with | some c => codeOk (cxT 12) c && noDup (loopIds c) | none => true) = true := by kernel_rfl
theorem fno13 : Tryd.prog.funcs[13]? = some Tryd.f13 ∧ (Tryd.f13.name == "runtime.NumGoroutine") = false ∧ Tryd.f13.body.isSome = true := ⟨Tryd.func13, by kernel_rfl, by kernel_rfl⟩
theorem fnc13 : (match Tryd.f13.body with | some c => codeOk (cxT 13) c && noDup (loopIds c) | none => true) = true := by kernel_rfl
theorem fno14 : Tryd.prog.funcs[14]? = some Tryd.f14 ∧ (Tryd.f14.name == "runtime.NumGoroutine") = false ∧ Tryd.f14.body.isSome = true := ⟨Tryd.func14, by kernel_rfl, by kernel_rfl⟩
theorem fnc14 : (match Tryd.f14.body with | some c => codeOk (cxT 14) c && noDup (loopIds c) | none => true) = true := by kernel_rfl
theorem fno15 : Tryd.prog.funcs[15]? = some Tryd.f15 ∧ (Tryd.f15.name == "runtime.NumGoroutine") = false ∧ Tryd.f15.body.isSome = true := ⟨Tryd.func15, by kernel_rfl, by kernel_rfl⟩
theorem fnc15 : (match Tryd.f15.body with | some c => codeOk (cxT 15) c && noDup (loopIds c) | none => true) = true := by kernel_rfl
theorem fno16 : Tryd.prog.funcs[16]? = some Tryd.f16 ∧ (Tryd.f16.name == "runtime.NumGoroutine") = false ∧ Tryd.f16.body.isSome = true := ⟨Tryd.func16, by kernel_rfl, by kernel_rfl⟩
theorem fnc16 : (match Tryd.f16.body with | some c => codeOk (cxT 16) c && noDup (loopIds c) | none => true) = true := by kernel_rfl
theorem fno17 : Tryd.prog.funcs[17]? = some Tryd.f17 ∧ (Tryd.f17.name == "runtime.NumGoroutine") = false ∧ Tryd.f17.body.isSome = true := ⟨Tryd.func17, by kernel_rfl, by kernel_rfl⟩
theorem fnc17 : (match Tryd.f17.body with | some c => codeOk (cxT 17) c && noDup (loopIds c) | none => true) = true := by kernel_rfl
theorem fno18 : Tryd.prog.funcs[18]? = some Tryd.f18 ∧ (Tryd.f18.name == "runtime.NumGoroutine") = false ∧ Tryd.f18.body.isSome = true := ⟨Tryd.func18, by kernel_rfl, by kernel_rfl⟩
theorem fnc18 : (match Tryd.f18.body with | some c => codeOk (cxT 18) c && noDup (loopIds c) | none => true) = true := by kernel_rfl
theorem fno19 : Tryd.prog.funcs[19]? = some Tryd.f19 ∧ (Tryd.f19.name == "runtime.NumGoroutine") = false ∧ Tryd.f19.body.isSome = true := ⟨Tryd.func19, by kernel_rfl, by kernel_rfl⟩
theorem fnc19 : (match Tryd.f19.body with | some c => codeOk (cxT 19) c && noDup (loopIds c) | none => true) = true := by kernel_rfl
theorem fno20 : Tryd.prog.funcs[20]? = some Tryd.f20 ∧ (Tryd.f20.name == "runtime.NumGoroutine") = false ∧ Tryd.f20.body.isSome = true := ⟨Tryd.func20, by kernel_rfl, by kernel_rfl⟩
theorem fnc20 : (match Tryd.f20.body with | some c => codeOk (cxT 20) c && noDup (loopIds c) | none => true) = true := by kernel_rfl
theorem fno21 : Tryd.prog.funcs[21]? = some Tryd.f21 ∧ (Tryd.f21.name == "runtime.NumGoroutine") = false ∧ Tryd.f21.body.isSome = true := ⟨Tryd.func21, by kernel_rfl, by kernel_rfl⟩
theorem fnc21 : (match Tryd.f21.body with | some c => codeOk (cxT 21) c && noDup (loopIds c) | none => true) = true := by kernel_rfl
theorem fno22 : Tryd.prog.funcs[22]? = some Tryd.f22 ∧ (Tryd.f22.name == "runtime.NumGoroutine") = false ∧ Tryd.f22.body.isSome = true := ⟨Tryd.func22, by kernel_rfl, by kernel_rfl⟩
theorem fnc22 : (match Tryd.f22.body with | some c => codeOk (cxT 22) c && noDup (loopIds c) | none => true) = true := by kernel_rfl
theorem fno23 : Tryd.prog.funcs[23]? = some Tryd.f23 ∧ (Tryd.f23.name == "runtime.NumGoroutine") = false ∧ Tryd.f23.body.isSome = true := ⟨Tryd.func23, by kernel_rfl, by kernel_rfl⟩
theorem fnc23 : (match Tryd.f23.body with | some c => codeOk (cxT 23) c && noDup (loopIds c) | none => true) = true := by kernel_rfl
theorem fno24 : Tryd.prog.funcs[24]? = some Tryd.f24 ∧ (Tryd.f24.name == "runtime.NumGoroutine") = false ∧ Tryd.f24.body.isSome = true := ⟨Tryd.func24, by kernel_rfl, by kernel_rfl⟩
theorem fnc24 : (match Tryd.f24.body with | some c => codeOk (cxT 24) c && noDup (loopIds c) | none => true) = true := by kernel_rfl
theorem fno25 : Tryd.prog.funcs[25]? = some Tryd.f25 ∧ (Tryd.f25.name == "runtime.NumGoroutine") = false ∧ Tryd.f25.body.isSome = true := ⟨Tryd.func25, by kernel_rfl, by kernel_rfl⟩
theorem fnc25 : (match Tryd.f25.body with | some c => codeOk (cxT 25) c && noDup (loopIds c) | none => true) = true := by kernel_rfl
theorem fno26 : Tryd.prog.funcs[26]? = some Tryd.f26 ∧ (Tryd.f26.name == "runtime.NumGoroutine") = false ∧ Tryd.f26.body.isSome = true := ⟨Tryd.func26, by kernel_rfl, by kernel_rfl⟩
theorem fnc26 : (match Tryd.f26.body with | some c => codeOk (cxT 26) c && noDup (loopIds c) | none => true) = true := by kernel_rfl
theorem fno27 : Tryd.prog.funcs[27]? = some Tryd.f27 ∧ (Tryd.f27.name == "runtime.NumGoroutine") = false ∧ Tryd.f27.body.isSome = true := ⟨Tryd.func27, by kernel_rfl, by kernel_rfl⟩
theorem fnc27 : (match Tryd.f27.body with | some c => codeOk (cxT 27) c && noDup (loopIds c) | none => true) = true := by kernel_rfl
theorem fno28 : Tryd.prog.funcs[28]? = some Tryd.f28 ∧ (Tryd.f28.name == "runtime.NumGoroutine") = false ∧ Tryd.f28.body.isSome = true := ⟨Tryd.func28, by kernel_rfl, by kernel_rfl⟩
theorem fnc28 : (match Tryd.f28.body with | some c => codeOk (cxT 28) c && noDup (loopIds c) | none => true) = true := by kernel_rfl
theorem fno29 : Tryd.prog.funcs[29]? = some Tryd.f29 ∧ (Tryd.f29.name == "runtime.NumGoroutine") = false ∧ Tryd.f29.body.isSome = true := ⟨Tryd.func29, by kernel_rfl, by kernel_rfl⟩
theorem fnc29 : (match Tryd.f29.body with | some c => codeOk (cxT 29) c && noDup (loopIds c) | none => true) = true := by kernel_rfl
theorem fno30 : Tryd.prog.funcs[30]? = some Tryd.f30 ∧ (Tryd.f30.name == "runtime.NumGoroutine") = false ∧ Tryd.f30.body.isSome = true := ⟨Tryd.func30, by kernel_rfl, by kernel_rfl⟩
theorem fnc30 : (match Tryd.f30.body with | some c => codeOk (cxT 30) c && noDup (loopIds c) | none => true) = true := by kernel_rfl
theorem fno31 : Tryd.prog.funcs[31]? = some Tryd.f31 ∧ (Tryd.f31.name == "runtime.NumGoroutine") = false ∧ Tryd.f31.body.isSome = true := ⟨Tryd.func31, by kernel_rfl, by kernel_rfl⟩
theorem fnc31 : (match Tryd.f31.body with | some c => codeOk (cxT 31) c && noDup (loopIds c) | none => true) = true := by kernel_rfl
theorem fno32 : Tryd.prog.funcs[32]? = some Tryd.f32 ∧ (Tryd.f32.name == "runtime.NumGoroutine") = false ∧ Tryd.f32.body.isSome = true := ⟨Tryd.func32, by kernel_rfl, by kernel_rfl⟩
theorem fnc32 : (match Tryd.f32.body with | some c => codeOk (cxT 32) c && noDup (loopIds c) | none => true) = true := by kernel_rfl
theorem fno33 : Tryd.prog.funcs[33]? = some Tryd.f33 ∧ (Tryd.f33.name == "runtime.NumGoroutine") = false ∧ Tryd.f33.body.isSome = true := ⟨Tryd.func33, by kernel_rfl, by kernel_rfl⟩
theorem fnc33 : (match Tryd.f33.body with | some c => codeOk (cxT 33) c && noDup (loopIds c) | none => true) = true := by kernel_rfl
theorem fno34 : Tryd.prog.funcs[34]? = some Tryd.f34 ∧ (Tryd.f34.name == "runtime.NumGoroutine") = false ∧ Tryd.f34.body.isSome = true := ⟨Tryd.func34, by kernel_rfl, by kernel_rfl⟩
theorem fnc34 : (match Tryd.f34.body with | some c => codeOk (cxT 34) c && noDup (loopIds c) | none => true) = true := by kernel_rfl
theorem fno35 : Tryd.prog.funcs[35]? = some Tryd.f35 ∧ (Tryd.f35.name == "runtime.NumGoroutine") = false ∧ Tryd.f35.body.isSome = true := ⟨Tryd.func35, by kernel_rfl, by kernel_rfl⟩
theorem fnc35 : (match Tryd.f35.body with | some c => codeOk (cxT 35) c && noDup (loopIds c) | none => true) = true := by kernel_rfl
theorem fno36 : Tryd.prog.funcs[36]? = some Tryd.f36 ∧ (Tryd.f36.name == "runtime.NumGoroutine") = false ∧ Tryd.f36.body.isSome = true := ⟨Tryd.func36, by kernel_rfl, by kernel_rfl⟩
theorem fnc36 : (match Tryd.f36.body with | some c => codeOk (cxT 36) c && noDup (loopIds c) | none => true) = true := by kernel_rfl
theorem fno37 : Tryd.prog.funcs[37]? = some Tryd.f37 ∧ (Tryd.f37.name == "runtime.NumGoroutine") = false ∧ Tryd.f37.body.isSome = true := ⟨Tryd.func37, by kernel_rfl, by kernel_rfl⟩
theorem fnc37 : (match Tryd.f37.body with | some c => codeOk (cxT 37) c && noDup (loopIds c) | none => true) = true := by kernel_rfl
theorem fno38 : Tryd.prog.funcs[38]? = some Tryd.f38 ∧ (Tryd.f38.name == "runtime.NumGoroutine") = false ∧ Tryd.f38.body.isSome = true := ⟨Tryd.func38, by kernel_rfl, by kernel_rfl⟩
theorem fnc38 : (match Tryd.f38.body with | some c => codeOk (cxT 38) c && noDup (loopIds c) | none => true) = true := by kernel_rfl
theorem fno39 : Tryd.prog.funcs[39]? = some Tryd.f39 ∧ (Tryd.f39.name == "runtime.NumGoroutine") = false ∧ Tryd.f39.body.isSome = true := ⟨Tryd.func39, by kernel_rfl, by kernel_rfl⟩
theorem fnc39 : (match Tryd.f39.body with | some c => codeOk (cxT 39) c && noDup (loopIds c) | none => true) = true := by kernel_rfl
theorem fno40 : Tryd.prog.funcs[40]? = some Tryd.f40 ∧ (Tryd.f40.name == "runtime.NumGoroutine") = false ∧ Tryd.f40.body.isSome = true := ⟨Tryd.func40, by kernel_rfl, by kernel_rfl⟩
theorem fnc40 : (match Tryd.f40.body with | some c => codeOk (cxT 40) c && noDup (loopIds c) | none => true) = true := by kernel_rfl
theorem fno41 : Tryd.prog.funcs[41]? = some Tryd.f41 ∧ (Tryd.f41.name == "runtime.NumGoroutine") = false ∧ Tryd.f41.body.isSome = true := ⟨Tryd.func41, by kernel_rfl, by kernel_rfl⟩
theorem fnc41 : (match Tryd.f41.body with | some c => codeOk (cxT 41) c && noDup (loopIds c) | none => true) = true := by kernel_rfl
theorem fno42 : Tryd.prog.funcs[42]? = some Tryd.f42 ∧ (Tryd.f42.name == "runtime.NumGoroutine") = false ∧ Tryd.f42.body.isSome = true := ⟨Tryd.func42, by kernel_rfl, by kernel_rfl⟩
theorem fnc42 : (match Tryd.f42.body with | some c => codeOk (cxT 42) c && noDup (loopIds c) | none => true) = true := by kernel_rfl
theorem fno43 : Tryd.prog.funcs[43]? = some Tryd.f43 ∧ (Tryd.f43.name == "runtime.NumGoroutine") = false ∧ Tryd.f43.body.isSome = true := ⟨Tryd.func43, by kernel_rfl, by kernel_rfl⟩
theorem fnc43 : (match Tryd.f43.body with | some c => codeOk (cxT 43) c && noDup (loopIds c) | none => true) = true := by kernel_rfl
theorem fno44 : Tryd.prog.funcs[44]? = some Tryd.f44 ∧ (Tryd.f44.name == "runtime.NumGoroutine") = false ∧ Tryd.f44.body.isSome = true := ⟨Tryd.func44, by kernel_rfl, by kernel_rfl⟩
theorem fnc44 : (match Tryd.f44.body with | some c => codeOk (cxT 44) c && noDup (loopIds c) | none => true) = true := by kernel_rfl
theorem fno45 : Tryd.prog.funcs[45]? = some Tryd.f45 ∧ (Tryd.f45.name == "runtime.NumGoroutine") = false ∧ Tryd.f45.body.isSome = true := ⟨Tryd.func45, by kernel_rfl, by kernel_rfl⟩
theorem fnc45 : (match Tryd.f45.body with | some c => codeOk (cxT 45) c && noDup (loopIds c) | none => true) = true := by kernel_rfl
theorem fno46 : Tryd.prog.funcs[46]? = some Tryd.f46 ∧ (Tryd.f46.name == "runtime.NumGoroutine") = false ∧ Tryd.f46.body.isSome = true := ⟨Tryd.func46, by kernel_rfl, by kernel_rfl⟩
theorem fnc46 : (match Tryd.f46.body with | some c => codeOk (cxT 46) c && noDup (loopIds c) | none => true) = true := by kernel_rfl
theorem fno47 : Tryd.prog.funcs[47]? = some Tryd.f47 ∧ (Tryd.f47.name == "runtime.NumGoroutine") = false ∧ Tryd.f47.body.isSome = true := ⟨Tryd.func47, by kernel_rfl, by kernel_rfl⟩
theorem fnc47 : (match Tryd.f47.body with | some c => codeOk (cxT 47) c && noDup (loopIds c) | none => true) = true := by kernel_rfl
theorem fno48 : Tryd.prog.funcs[48]? = some Tryd.f48 ∧ (Tryd.f48.name == "runtime.NumGoroutine") = false ∧ Tryd.f48.body.isSome = true := ⟨Tryd.func48, by kernel_rfl, by kernel_rfl⟩
theorem fnc48 : (match Tryd.f48.body with | some c => codeOk (cxT 48) c && noDup (loopIds c) | none => true) = true := by kernel_rfl
theorem fno49 : Tryd.prog.funcs[49]? = some Tryd.f49 ∧ (Tryd.f49.name == "runtime.NumGoroutine") = false ∧ Tryd.f49.body.isSome = true := ⟨Tryd.func49, by kernel_rfl, by kernel_rfl⟩
theorem fnc49 : (match Tryd.f49.body with | some c => codeOk (cxT 49) c && noDup (loopIds c) | none => true) = true := by kernel_rfl
theorem fno50 : Tryd.prog.funcs[50]? = some Tryd.f50 ∧ (Tryd.f50.name == "runtime.NumGoroutine") = false ∧ Tryd.f50.body.isSome = true := ⟨Tryd.func50, by kernel_rfl, by kernel_rfl⟩
theorem fnc50 : (match Tryd.f50.body with | some c => codeOk (cxT 50) c && noDup (loopIds c) | none => true) = true := by kernel_rfl
theorem fno51 : Tryd.prog.funcs[51]? = some Tryd.f51 ∧ (Tryd.f51.name == "runtime.NumGoroutine") = false ∧ Tryd.f51.body.isSome = true := ⟨Tryd.func51, by kernel_rfl, by kernel_rfl⟩
theorem fnc51 : (match Tryd.f51.body with | some c => codeOk (cxT 51) c && noDup (loopIds c) | none => true) = true := by kernel_rfl
theorem fno52 : Tryd.prog.funcs[52]? = some Tryd.f52 ∧ (Tryd.f52.name == "runtime.NumGoroutine") = false ∧ Tryd.f52.body.isSome = true := ⟨Tryd.func52, by kernel_rfl, by kernel_rfl⟩
theorem fnc52 : (match Tryd.f52.body with | some c => codeOk (cxT 52) c && noDup (loopIds c) | none => true) = true := by kernel_rfl
theorem fno53 : Tryd.prog.funcs[53]? = some Tryd.f53 ∧ (Tryd.f53.name == "runtime.NumGoroutine") = false ∧ Tryd.f53.body.isSome = true := ⟨Tryd.func53, by kernel_rfl, by kernel_rfl⟩
theorem fnc53 : (match Tryd.f53.body with | some c => codeOk (cxT 53) c && noDup (loopIds c) | none => true) = true := by kernel_rfl
theorem fno54 : Tryd.prog.funcs[54]? = some Tryd.f54 ∧ (Tryd.f54.name == "runtime.NumGoroutine") = false ∧ Tryd.f54.body.isSome = true := ⟨Tryd.func54, by kernel_rfl, by kernel_rfl⟩
theorem fnc54 : (match Tryd.f54.body with | some c => codeOk (cxT 54) c && noDup (loopIds c) | none => true) = true := by kernel_rfl
theorem fno55 : Tryd.prog.funcs[55]? = some Tryd.f55 ∧ (Tryd.f55.name == "runtime.NumGoroutine") = false ∧ Tryd.f55.body.isSome = true := ⟨Tryd.func55, by kernel_rfl, by kernel_rfl⟩
theorem fnc55 : (match Tryd.f55.body with | some c => codeOk (cxT 55) c && noDup (loopIds c) | none => true) = true := by kernel_rfl
theorem fno56 : Tryd.prog.funcs[56]? = some Tryd.f56 ∧ (Tryd.f56.name == "runtime.NumGoroutine") = false ∧ Tryd.f56.body.isSome = true := ⟨Tryd.func56, by kernel_rfl, by kernel_rfl⟩
theorem fnc56 : (match Tryd.f56.body with | some c => codeOk (cxT 56) c && noDup (loopIds c) | none => true) = true := by kernel_rfl
theorem fno57 : Tryd.prog.funcs[57]? = some Tryd.f57 ∧ (Tryd.f57.name == "runtime.NumGoroutine") = false ∧ Tryd.f57.body.isSome = true := ⟨Tryd.func57, by kernel_rfl, by kernel_rfl⟩
theorem fnc57 : (match Tryd.f57.body with | some c => codeOk (cxT 57) c && noDup (loopIds c) | none => true) = true := by kernel_rfl
theorem fno58 : Tryd.prog.funcs[58]? = some Tryd.f58 ∧ (Tryd.f58.name == "runtime.NumGoroutine") = false ∧ Tryd.f58.body.isSome = true := ⟨Tryd.func58, by kernel_rfl, by kernel_rfl⟩
theorem fnc58 : (match Tryd.f58.body with | some c => codeOk (cxT 58) c && noDup (loopIds c) | none => true) = true := by kernel_rfl
theorem fno59 : Tryd.prog.funcs[59]? = some Tryd.f59 ∧ (Tryd.f59.name == "runtime.NumGoroutine") = false ∧ Tryd.f59.body.isSome = true := ⟨Tryd.func59, by kernel_rfl, by kernel_rfl⟩
theorem fnc59 : (match Tryd.f59.body with | some c => codeOk (cxT 59) c && noDup (loopIds c) | none => true) = true := by kernel_rfl
theorem fno60 : Tryd.prog.funcs[60]? = some Tryd.f60 ∧ (Tryd.f60.name == "runtime.NumGoroutine") = false ∧ Tryd.f60.body.isSome = true := ⟨Tryd.func60, by kernel_rfl, by kernel_rfl⟩
theorem fnc60 : (match Tryd.f60.body with | some c => codeOk (cxT 60) c && noDup (loopIds c) | none => true) = true := by kernel_rfl
theorem fno63 : Tryd.prog.funcs[63]? = some Tryd.f63 ∧ (Tryd.f63.name == "runtime.NumGoroutine") = false ∧ Tryd.f63.body.isSome = true := ⟨Tryd.func63, by kernel_rfl, by kernel_rfl⟩
theorem fnc63 : (match Tryd.f63.body with | some c => codeOk (cxT 63) c && noDup (loopIds c) | none => true) = true := by kernel_rfl
theorem fno64 : Tryd.prog.funcs[64]? = some Tryd.f64 ∧ (Tryd.f64.name == "runtime.NumGoroutine") = false ∧ Tryd.f64.body.isSome = true := ⟨Tryd.func64, by kernel_rfl, by kernel_rfl⟩
theorem fnc64 : (match Tryd.f64.body with | some c => codeOk (cxT 64) c && noDup (loopIds c) | none => true) = true := by kernel_rfl
theorem fno65 : Tryd.prog.funcs[65]? = some Tryd.f65 ∧ (Tryd.f65.name == "runtime.NumGoroutine") = false ∧ Tryd.f65.body.isSome = true := ⟨Tryd.func65, by kernel_rfl, by kernel_rfl⟩
theorem fnc65 : (match Tryd.f65.body with | some c => codeOk (cxT 65) c && noDup (loopIds c) | none => true) = true := by kernel_rfl
theorem fno66 : Tryd.prog.funcs[66]? = some Tryd.f66 ∧ (Tryd.f66.name == "runtime.NumGoroutine") = false ∧ Tryd.f66.body.isSome = true := ⟨Tryd.func66, by kernel_rfl, by kernel_rfl⟩
theorem fnc66 : (match Tryd.f66.body with | some c => codeOk (cxT 66) c && noDup (loopIds c) | none => true) = true := by kernel_rfl
theorem fno67 : Tryd.prog.funcs[67]? = some Tryd.f67 ∧ (Tryd.f67.name == "runtime.NumGoroutine") = false ∧ Tryd.f67.body.isSome = true := ⟨Tryd.func67, by kernel_rfl, by kernel_rfl⟩
theorem fnc67 : (match Tryd.f67.body with | some c => codeOk (cxT 67) c && noDup (loopIds c) | none => true) = true := by kernel_rfl
theorem fno68 : Tryd.prog.funcs[68]? = some Tryd.f68 ∧ (Tryd.f68.name == "runtime.NumGoroutine") = false ∧ Tryd.f68.body.isSome = true := ⟨Tryd.func68, by kernel_rfl, by kernel_rfl⟩
theorem fnc68 : (match Tryd.f68.body with | some c => codeOk (cxT 68) c && noDup (loopIds c) | none => true) = true := by kernel_rfl
theorem fno69 : Tryd.prog.funcs[69]? = some Tryd.f69 ∧ (Tryd.f69.name == "runtime.NumGoroutine") = false ∧ Tryd.f69.body.isSome = true := ⟨Tryd.func69, by kernel_rfl, by kernel_rfl⟩
theorem fnc69 : (match Tryd.f69.body with | some c => codeOk (cxT 69) c && noDup (loopIds c) | none => true) = true := by kernel_rfl
theorem fno70 : Tryd.prog.funcs[70]? = some Tryd.f70 ∧ (Tryd.f70.name == "runtime.NumGoroutine") = false ∧ Tryd.f70.body.isSome = true := ⟨Tryd.func70, by kernel_rfl, by kernel_rfl⟩
theorem fnc70 : (match Tryd.f70.body with | some c => codeOk (cxT 70) c && noDup (loopIds c) | none => true) = true := by kernel_rfl
theorem fno82 : Tryd.prog.funcs[82]? = some Tryd.f82 ∧ (Tryd.f82.name == "runtime.NumGoroutine") = false ∧ Tryd.f82.body.isSome = true := ⟨Tryd.func82, by kernel_rfl, by kernel_rfl⟩
theorem fnc82 : (match Tryd.f82.body with | some c => codeOk (cxT 82) c && noDup (loopIds c) | none => true) = true := by kernel_rfl
theorem fno83 : Tryd.prog.funcs[83]? = some Tryd.f83 ∧ (Tryd.f83.name == "runtime.NumGoroutine") = false ∧ Tryd.f83.body.isSome = true := ⟨Tryd.func83, by kernel_rfl, by kernel_rfl⟩
theorem fnc83 : (match Tryd.f83.body with | some c => codeOk (cxT 83) c && noDup (loopIds c) | none => true) = true := by kernel_rfl
theorem fno90 : Tryd.prog.funcs[90]? = some Tryd.f90 ∧ (Tryd.f90.name == "runtime.NumGoroutine") = false ∧ Tryd.f90.body.isSome = true := ⟨Tryd.func90, by kernel_rfl, by kernel_rfl⟩
theorem fnc90 : (match Tryd.f90.body with | some c => codeOk (cxT 90) c && noDup (loopIds c) | none => true) = true := by kernel_rfl
theorem fno91 : Tryd.prog.funcs[91]? = some Tryd.f91 ∧ (Tryd.f91.name == "runtime.NumGoroutine") = false ∧ Tryd.f91.body.isSome = true := ⟨Tryd.func91, by kernel_rfl, by kernel_rfl⟩
theorem fnc91 : (match Tryd.f91.body with | some c => codeOk (cxT 91) c && noDup (loopIds c) | none => true) = true := by kernel_rfl
theorem fno92 : Tryd.prog.funcs[92]? = some Tryd.f92 ∧ (Tryd.f92.name == "runtime.NumGoroutine") = false ∧ Tryd.f92.body.isSome = true := ⟨Tryd.func92, by kernel_rfl, by kernel_rfl⟩
theorem fnc92 : (match Tryd.f92.body with | some c => codeOk (cxT 92) c && noDup (loopIds c) | none => true) = true := by kernel_rfl
theorem fno93 : Tryd.prog.funcs[93]? = some Tryd.f93 ∧ (Tryd.f93.name == "runtime.NumGoroutine") = false ∧ Tryd.f93.body.isSome = true := ⟨Tryd.func93, by kernel_rfl, by kernel_rfl⟩
theorem fnc93 : (match Tryd.f93.body with | some c => codeOk (cxT 93) c && noDup (loopIds c) | none => true) = true := by kernel_rfl
theorem fno94 : Tryd.prog.funcs[94]? = some Tryd.f94 ∧ (Tryd.f94.name == "runtime.NumGoroutine") = false ∧ Tryd.f94.body.isSome = true := ⟨Tryd.func94, by kernel_rfl, by kernel_rfl⟩
theorem fnc94 : (match Tryd.f94.body with | some c => codeOk (cxT 94) c && noDup (loopIds c) | none => true) = true := by kernel_rfl
theorem fno95 : Tryd.prog.funcs[95]? = some Tryd.f95 ∧ (Tryd.f95.name == "runtime.NumGoroutine") = false ∧ Tryd.f95.body.isSome = true := ⟨Tryd.func95, by kernel_rfl, by kernel_rfl⟩
theorem fnc95 : (match Tryd.f95.body with | some c => codeOk (cxT 95) c && noDup (loopIds c) | none => true) = true := by kernel_rfl
theorem fno96 : Tryd.prog.funcs[96]? = some Tryd.f96 ∧ (Tryd.f96.name == "runtime.NumGoroutine") = false ∧ Tryd.f96.body.isSome = true := ⟨Tryd.func96, by kernel_rfl, by kernel_rfl⟩
theorem fnc96 : (match Tryd.f96.body with | some c => codeOk (cxT 96) c && noDup (loopIds c) | none => true) = true := by kernel_rfl
theorem fno97 : Tryd.prog.funcs[97]? = some Tryd.f97 ∧ (Tryd.f97.name == "runtime.NumGoroutine") = false ∧ Tryd.f97.body.isSome = true := ⟨Tryd.func97, by kernel_rfl, by kernel_rfl⟩
theorem fnc97 : (match Tryd.f97.body with | some c => codeOk (cxT 97) c && noDup (loopIds c) | none => true) = true := by kernel_rfl
theorem fno98 : Tryd.prog.funcs[98]? = some Tryd.f98 ∧ (Tryd.f98.name == "runtime.NumGoroutine") = false ∧ Tryd.f98.body.isSome = true := ⟨Tryd.func98, by kernel_rfl, by kernel_rfl⟩
theorem fnc98 : (match Tryd.f98.body with | some c => codeOk (cxT 98) c && noDup (loopIds c) | none => true) = true := by kernel_rfl
theorem fno99 : Tryd.prog.funcs[99]? = some Tryd.f99 ∧ (Tryd.f99.name == "runtime.NumGoroutine") = false ∧ Tryd.f99.body.isSome = true := ⟨Tryd.func99, by kernel_rfl, by kernel_rfl⟩
theorem fnc99 : (match Tryd.f99.body with | some c => codeOk (cxT 99) c && noDup (loopIds c) | none => true) = true := by kernel_rfl
theorem fno100 : Tryd.prog.funcs[100]? = some Tryd.f100 ∧ (Tryd.f100.name == "runtime.NumGoroutine") = false ∧ Tryd.f100.body.isSome = true := ⟨Tryd.func100, by kernel_rfl, by kernel_rfl⟩
theorem fnc100 : (match Tryd.f100.body with | some c => codeOk (cxT 100) c && noDup (loopIds c) | none => true) = true := by kernel_rfl
theorem fn_ok : ∀ f fn, fnT f = some fn → Tryd.prog.funcs[f]? = some fn ∧ (fn.name == "runtime.NumGoroutine") = false ∧ fn.body.isSome = true := by
  intro f fn h
  unfold fnT at h
  split at h
  · obtain rfl := Option.some.inj h; exact fno3
  · obtain rfl := Option.some.inj h; exact fno4
  · obtain rfl := Option.some.inj h; exact fno5
  · obtain rfl := Option.some.inj h; exact fno6
  · obtain rfl := Option.some.inj h; exact fno7
  · obtain rfl := Option.some.inj h; exact fno8
  · obtain rfl := Option.some.inj h; exact fno9
  · obtain rfl := Option.some.inj h; exact fno10
  · obtain rfl := Option.some.inj h; exact fno11
  · obtain rfl := Option.some.inj h; exact fno12
  · obtain rfl := Option.some.inj h; exact fno13
  · obtain rfl := Option.some.inj h; exact fno14
  · obtain rfl := Option.some.inj h; exact fno15
  · obtain rfl := Option.some.inj h; exact fno16
  · obtain rfl := Option.some.inj h; exact fno17
  · obtain rfl := Option.some.inj h; exact fno18
  · obtain rfl := Option.some.inj h; exact fno19
  · obtain rfl := Option.some.inj h; exact fno20
  · obtain rfl := Option.some.inj h; exact fno21
  · obtain rfl := Option.some.inj h; exact fno22
  · obtain rfl := Option.some.inj h; exact fno23
  · obtain rfl := Option.some.inj h; exact fno24
  · obtain rfl := Option.some.inj h; exact fno25
  · obtain rfl := Option.some.inj h; exact fno26
  · obtain rfl := Option.some.inj h; exact fno27
  · obtain rfl := Option.some.inj h; exact fno28
  · obtain rfl := Option.some.inj h; exact fno29
  · obtain rfl := Option.some.inj h; exact fno30
  · obtain rfl := Option.some.inj h; exact fno31
  · obtain rfl := Option.some.inj h; exact fno32
  · obtain rfl := Option.some.inj h; exact fno33
  · obtain rfl := Option.some.inj h; exact fno34
  · obtain rfl := Option.some.inj h; exact fno35
  · obtain rfl := Option.some.inj h; exact fno36
  · obtain rfl := Option.some.inj h; exact fno37
  · obtain rfl := Option.some.inj h; exact fno38
  · obtain rfl := Option.some.inj h; exact fno39
  · obtain rfl := Option.some.inj h; exact fno40
  · obtain rfl := Option.some.inj h; exact fno41
  · obtain rfl := Option.some.inj h; exact fno42
  · obtain rfl := Option.some.inj h; exact fno43
  · obtain rfl := Option.some.inj h; exact fno44
  · obtain rfl := Option.some.inj h; exact fno45
  · obtain rfl := Option.some.inj h; exact fno46
  · obtain rfl := Option.some.inj h; exact fno47
  · obtain rfl := Option.some.inj h; exact fno48
  · obtain rfl := Option.some.inj h; exact fno49
  · obtain rfl := Option.some.inj h; exact fno50
  · obtain rfl := Option.some.inj h; exact fno51
  · obtain rfl := Option.some.inj h; exact fno52
  · obtain rfl := Option.some.inj h; exact fno53
  · obtain rfl := Option.some.inj h; exact fno54
  · obtain rfl := Option.some.inj h; exact fno55
  · obtain rfl := Option.some.inj h; exact fno56
  · obtain rfl := Option.some.inj h; exact fno57
  · obtain rfl := Option.some.inj h; exact fno58
  · obtain rfl := Option.some.inj h; exact fno59
  · obtain rfl := Option.some.inj h; exact fno60
  · obtain rfl := Option.some.inj h; exact fno63
  · obtain rfl := Option.some.inj h; exact fno64
  · obtain rfl := Option.some.inj h; exact fno65
  · obtain rfl := Option.some.inj h; exact fno66
  · obtain rfl := Option.some.inj h; exact fno67
  · obtain rfl := Option.some.inj h; exact fno68
  · obtain rfl := Option.some.inj h; exact fno69
  · obtain rfl := Option.some.inj h; exact fno70
  · obtain rfl := Option.some.inj h; exact fno82
  · obtain rfl := Option.some.inj h; exact fno83
  · obtain rfl := Option.some.inj h; exact fno90
  · obtain rfl := Option.some.inj h; exact fno91
  · obtain rfl := Option.some.inj h; exact fno92
  · obtain rfl := Option.some.inj h; exact fno93
  · obtain rfl := Option.some.inj h; exact fno94
  · obtain rfl := Option.some.inj h; exact fno95
  · obtain rfl := Option.some.inj h; exact fno96
  · obtain rfl := Option.some.inj h; exact fno97
  · obtain rfl := Option.some.inj h; exact fno98
  · obtain rfl := Option.some.inj h; exact fno99
  · obtain rfl := Option.some.inj h; exact fno100
  · cases h
theorem code_ok : ∀ f fn c, fnT f = some fn → fn.body = some c → codeOk (cxT f) c = true ∧ noDup (loopIds c) = true := by
  intro f fn c h hb
  unfold fnT at h
  split at h
  · obtain rfl := Option.some.inj h; have := fnc3; rw [hb] at this; simpa only [Bool.and_eq_true] using this
  · obtain rfl := Option.some.inj h; have := fnc4; rw [hb] at this; simpa only [Bool.and_eq_true] using this
  · obtain rfl := Option.some.inj h; have := fnc5; rw [hb] at this; simpa only [Bool.and_eq_true] using this
  · obtain rfl := Option.some.inj h; have := fnc6; rw [hb] at this; simpa only [Bool.and_eq_true] using this
  · obtain rfl := Option.some.inj h; have := fnc7; rw [hb] at this; simpa only [Bool.and_eq_true] using this
  · obtain rfl := Option.some.inj h; have := fnc8; rw [hb] at this; simpa only [Bool.and_eq_true] using this
  · obtain rfl := Option.some.inj h; have := fnc9; rw [hb] at this; simpa only [Bool.and_eq_true] using this
  · obtain rfl := Option.some.inj h; have := fnc10; rw [hb] at this; simpa only [Bool.and_eq_true] using this
  · obtain rfl := Option.some.inj h; have := fnc11; rw [hb] at this; simpa only [Bool.and_eq_true] using this
  · obtain rfl := Option.some.inj h; have := fnc12; rw [hb] at this; simpa only [Bool.and_eq_true] using this
  · obtain rfl := Option.some.inj h; have := fnc13; rw [hb] at this; simpa only [Bool.and_eq_true] using this
  · obtain rfl := Option.some.inj h; have := fnc14; rw [hb] at this; simpa only [Bool.and_eq_true] using this
  · obtain rfl := Option.some.inj h; have := fnc15; rw [hb] at this; simpa only [Bool.and_eq_true] using this
  · obtain rfl := Option.some.inj h; have := fnc16; rw [hb] at this; simpa only [Bool.and_eq_true] using this
  · obtain rfl := Option.some.inj h; have := fnc17; rw [hb] at this; simpa only [Bool.and_eq_true] using this
  · obtain rfl := Option.some.inj h; have := fnc18; rw [hb] at this; simpa only [Bool.and_eq_true] using this
  · obtain rfl := Option.some.inj h; have := fnc19; rw [hb] at this; simpa only [Bool.and_eq_true] using this
  · obtain rfl := Option.some.inj h; have := fnc20; rw [hb] at this; simpa only [Bool.and_eq_true] using this
  · obtain rfl := Option.some.inj h; have := fnc21; rw [hb] at this; simpa only [Bool.and_eq_true] using this
  · obtain rfl := Option.some.inj h; have := fnc22; rw [hb] at this; simpa only [Bool.and_eq_true] using this
  · obtain rfl := Option.some.inj h; have := fnc23; rw [hb] at this; simpa only [Bool.and_eq_true] using this
  · obtain rfl := Option.some.inj h; have := fnc24; rw [hb] at this; simpa only [Bool.and_eq_true] using this
  · obtain rfl := Option.some.inj h; have := fnc25; rw [hb] at this; simpa only [Bool.and_eq_true] using this
  · obtain rfl := Option.some.inj h; have := fnc26; rw [hb] at this; simpa only [Bool.and_eq_true] using this
  · obtain rfl := Option.some.inj h; have := fnc27; rw [hb] at this; simpa only [Bool.and_eq_true] using this
  · obtain rfl := Option.some.inj h; have := fnc28; rw [hb] at this; simpa only [Bool.and_eq_true] using this
  · obtain rfl := Option.some.inj h; have := fnc29; rw [hb] at this; simpa only [Bool.and_eq_true] using this
  · obtain rfl := Option.some.inj h; have := fnc30; rw [hb] at this; simpa only [Bool.and_eq_true] using this
  · obtain rfl := Option.some.inj h; have := fnc31; rw [hb] at this; simpa only [Bool.and_eq_true] using this
  · obtain rfl := Option.some.inj h; have := fnc32; rw [hb] at this; simpa only [Bool.and_eq_true] using this
  · obtain rfl := Option.some.inj h; have := fnc33; rw [hb] at this; simpa only [Bool.and_eq_true] using this
  · obtain rfl := Option.some.inj h; have := fnc34; rw [hb] at this; simpa only [Bool.and_eq_true] using this
  · obtain rfl := Option.some.inj h; have := fnc35; rw [hb] at this; simpa only [Bool.and_eq_true] using this
  · obtain rfl := Option.some.inj h; have := fnc36; rw [hb] at this; simpa only [Bool.and_eq_true] using this
  · obtain rfl := Option.some.inj h; have := fnc37; rw [hb] at this; simpa only [Bool.and_eq_true] using this
  · obtain rfl := Option.some.inj h; have := fnc38; rw [hb] at this; simpa only [Bool.and_eq_true] using this
  · obtain rfl := Option.some.inj h; have := fnc39; rw [hb] at this; simpa only [Bool.and_eq_true] using this
  · obtain rfl := Option.some.inj h; have := fnc40; rw [hb] at this; simpa only [Bool.and_eq_true] using this
  · obtain rfl := Option.some.inj h; have := fnc41; rw [hb] at this; simpa only [Bool.and_eq_true] using this
  · obtain rfl := Option.some.inj h; have := fnc42; rw [hb] at this; simpa only [Bool.and_eq_true] using this
  · obtain rfl := Option.some.inj h; have := fnc43; rw [hb] at this; simpa only [Bool.and_eq_true] using this
  · obtain rfl := Option.some.inj h; have := fnc44; rw [hb] at this; simpa only [Bool.and_eq_true] using this
  · obtain rfl := Option.some.inj h; have := fnc45; rw [hb] at this; simpa only [Bool.and_eq_true] using this
  · obtain rfl := Option.some.inj h; have := fnc46; rw [hb] at this; simpa only [Bool.and_eq_true] using this
  · obtain rfl := Option.some.inj h; have := fnc47; rw [hb] at this; simpa only [Bool.and_eq_true] using this
  · obtain rfl := Option.some.inj h; have := fnc48; rw [hb] at this; simpa only [Bool.and_eq_true] using this
  · obtain rfl := Option.some.inj h; have := fnc49; rw [hb] at this; simpa only [Bool.and_eq_true] using this
  · obtain rfl := Option.some.inj h; have := fnc50; rw [hb] at this; simpa only [Bool.and_eq_true] using this
  · obtain rfl := Option.some.inj h; have := fnc51; rw [hb] at this; simpa only [Bool.and_eq_true] using this
  · obtain rfl := Option.some.inj h; have := fnc52; rw [hb] at this; simpa only [Bool.and_eq_true] using this
  · obtain rfl := Option.some.inj h; have := fnc53; rw [hb] at this; simpa only [Bool.and_eq_true] using this
  · obtain rfl := Option.some.inj h; have := fnc54; rw [hb] at this; simpa only [Bool.and_eq_true] using this
  · obtain rfl := Option.some.inj h; have := fnc55; rw [hb] at this; simpa only [Bool.and_eq_true] using this
  · obtain rfl := Option.some.inj h; have := fnc56; rw [hb] at this; simpa only [Bool.and_eq_true] using this
  · obtain rfl := Option.some.inj h; have := fnc57; rw [hb] at this; simpa only [Bool.and_eq_true] using this
  · obtain rfl := Option.some.inj h; have := fnc58; rw [hb] at this; simpa only [Bool.and_eq_true] using this
  · obtain rfl := Option.some.inj h; have := fnc59; rw [hb] at this; simpa only [Bool.and_eq_true] using this
  · obtain rfl := Option.some.inj h; have := fnc60; rw [hb] at this; simpa only [Bool.and_eq_true] using this
  · obtain rfl := Option.some.inj h; have := fnc63; rw [hb] at this; simpa only [Bool.and_eq_true] using this
  · obtain rfl := Option.some.inj h; have := fnc64; rw [hb] at this; simpa only [Bool.and_eq_true] using this
  · obtain rfl := Option.some.inj h; have := fnc65; rw [hb] at this; simpa only [Bool.and_eq_true] using this
  · obtain rfl := Option.some.inj h; have := fnc66; rw [hb] at this; simpa only [Bool.and_eq_true] using this
  · obtain rfl := Option.some.inj h; have := fnc67; rw [hb] at this; simpa only [Bool.and_eq_true] using this
  · obtain rfl := Option.some.inj h; have := fnc68; rw [hb] at this; simpa only [Bool.and_eq_true] using this
  · obtain rfl := Option.some.inj h; have := fnc69; rw [hb] at this; simpa only [Bool.and_eq_true] using this
  · obtain rfl := Option.some.inj h; have := fnc70; rw [hb] at this; simpa only [Bool.and_eq_true] using this
  · obtain rfl := Option.some.inj h; have := fnc82; rw [hb] at this; simpa only [Bool.and_eq_true] using this
  · obtain rfl := Option.some.inj h; have := fnc83; rw [hb] at this; simpa only [Bool.and_eq_true] using this
  · obtain rfl := Option.some.inj h; have := fnc90; rw [hb] at this; simpa only [Bool.and_eq_true] using this
  · obtain rfl := Option.some.inj h; have := fnc91; rw [hb] at this; simpa only [Bool.and_eq_true] using this
  · obtain rfl := Option.some.inj h; have := fnc92; rw [hb] at this; simpa only [Bool.and_eq_true] using this
  · obtain rfl := Option.some.inj h; have := fnc93; rw [hb] at this; simpa only [Bool.and_eq_true] using this
  · obtain rfl := Option.some.inj h; have := fnc94; rw [hb] at this; simpa only [Bool.and_eq_true] using this
  · obtain rfl := Option.some.inj h; have := fnc95; rw [hb] at this; simpa only [Bool.and_eq_true] using this
  · obtain rfl := Option.some.inj h; have := fnc96; rw [hb] at this; simpa only [Bool.and_eq_true] using this
  · obtain rfl := Option.some.inj h; have := fnc97; rw [hb] at this; simpa only [Bool.and_eq_true] using this
  · obtain rfl := Option.some.inj h; have := fnc98; rw [hb] at this; simpa only [Bool.and_eq_true] using this
  · obtain rfl := Option.some.inj h; have := fnc99; rw [hb] at this; simpa only [Bool.and_eq_true] using this
  · obtain rfl := Option.some.inj h; have := fnc100; rw [hb] at this; simpa only [Bool.and_eq_true] using this
  · cases h
theorem mixed : Tryd.prog.follows .mixedOrders = true := by kernel_rfl
theorem cmo69 : Tryd.prog.underlying 69 = some (.struct (Tryd.prog.fieldsOf 69)) ∧ Tryd.prog.stoodInHeld 69 = false ∧ Tryd.prog.eqGuardType Tryd.prog.depth 69 = false ∧ (Tryd.prog.fieldsOf 69).toList.all (fun f => f.name != "_") = true := ⟨by kernel_rfl, by kernel_rfl, by kernel_rfl, by kernel_rfl⟩
theorem cmo70 : Tryd.prog.underlying 70 = some (.struct (Tryd.prog.fieldsOf 70)) ∧ Tryd.prog.stoodInHeld 70 = false ∧ Tryd.prog.eqGuardType Tryd.prog.depth 70 = false ∧ (Tryd.prog.fieldsOf 70).toList.all (fun f => f.name != "_") = true := ⟨by kernel_rfl, by kernel_rfl, by kernel_rfl, by kernel_rfl⟩
theorem cmo77 : Tryd.prog.underlying 77 = some (.struct (Tryd.prog.fieldsOf 77)) ∧ Tryd.prog.stoodInHeld 77 = false ∧ Tryd.prog.eqGuardType Tryd.prog.depth 77 = false ∧ (Tryd.prog.fieldsOf 77).toList.all (fun f => f.name != "_") = true := ⟨by kernel_rfl, by kernel_rfl, by kernel_rfl, by kernel_rfl⟩
theorem cmp_ok : ∀ t, cmpT t = true → Tryd.prog.underlying t = some (.struct (Tryd.prog.fieldsOf t)) ∧ Tryd.prog.stoodInHeld t = false ∧ Tryd.prog.eqGuardType Tryd.prog.depth t = false ∧ (Tryd.prog.fieldsOf t).toList.all (fun f => f.name != "_") = true := by
  intro t h
  unfold cmpT at h
  simp only [Bool.or_eq_true, beq_iff_eq] at h
  rcases h with (rfl | rfl) | rfl
  · exact cmo69
  · exact cmo70
  · exact cmo77
theorem cmpA_ok : ∀ t, cmpAT t = true → Tryd.prog.eqGuardType Tryd.prog.depth t = false := by
  intro t h
  unfold cmpAT at h
  simp only [Bool.or_eq_true, beq_iff_eq] at h
  rcases h with rfl
  · kernel_rfl
theorem mapT_ok : ∀ t e, mapTT t = some e → ∃ k info us, Tryd.prog.underlying t = some (.map k e) ∧ Tryd.prog.underlying k = some (.int .i64) ∧ Tryd.prog.info? e = some info ∧ info.zero = some (.agg us) := by
  intro t e h
  unfold mapTT at h
  cases h
theorem ptr_ok : ∀ t, ptrTT t = true → ∃ te j, Tryd.prog.underlying t = some (.pointer te) ∧ Tryd.prog.info? te = some j ∧ j.size ≠ 0 := by
  intro t h
  unfold ptrTT at h
  cases h
theorem uns_ok : ∀ t, unsPT t = true → Tryd.prog.underlying t = some .unsafePointer := by
  intro t h
  unfold unsPT at h
  simp only [Bool.or_eq_true, beq_iff_eq] at h
  rcases h with rfl
  · kernel_rfl
theorem byteP_ok : ∀ t, bytePT t = true → Tryd.prog.underlying t = some (.pointer 5) ∧ Tryd.prog.cellsOf 5 = 1 := by
  intro t h
  unfold bytePT at h
  simp only [Bool.or_eq_true, beq_iff_eq] at h
  rcases h with rfl
  · exact ⟨by kernel_rfl, by kernel_rfl⟩
theorem unsTo_ok : ∀ T t n, unsToT T t = some n → ∃ u j, Tryd.prog.underlying t = some (.pointer u) ∧ Tryd.prog.info? u = some j ∧ liesAt Tryd.prog Tryd.prog.depth T (n / Tryd.prog.cellsOf T) 0 u 1 = true := by
  intro T t n h
  unfold unsToT at h
  cases h
theorem hook_ok : ∀ f h, hookT f = some h → HookFn Tryd.prog f h := by
  intro f h hh
  unfold hookT at hh
  split at hh
  · rename_i e; subst e; obtain rfl := Option.some.inj hh; exact sort_ok lay189 (by kernel_rfl) (by kernel_rfl)
  split at hh
  · rename_i e; subst e; obtain rfl := Option.some.inj hh; exact compact_ok lay20 (by kernel_rfl) (by kernel_rfl)
  · cases hh
theorem byte_ok : ∀ j, tiT 5 = some j → j.size = 1 ∧ Tryd.prog.cellsOf 5 = 1 := by
  intro j h; obtain rfl := Option.some.inj ((show tiT 5 = some _ from rfl).symm.trans h); exact ⟨rfl, by kernel_rfl⟩
theorem cfg_ok : CfgOk Tryd.prog cfg := ⟨fn_ok, ti_ok, mixed, code_ok, cmp_ok, cmpA_ok, mapT_ok, ptr_ok, uns_ok, unsTo_ok, hook_ok, byteP_ok, byte_ok⟩
end Go.Proofs.YtifckjhggamefaaDoor
