/- The abstract interpreter's table holds: by the kernel. Written by a program (vxok.py). -/
import Derived.Test.YtgppmcpbphgnnaaVxCfg
import Derived.Test.YtgppmcpbphgnnaaVxHk
import Derived.Test.YtgppmcpbphgnnaaVf
import Derived.KernelRfl
set_option linter.unusedSimpArgs false
set_option linter.unusedVariables false
set_option linter.unusedSectionVars false
namespace Go.Proofs.Ytgppmcpbphgnnaa
open Go Go.Vx
set_option maxRecDepth 100000

theorem tio2 : TiOk Try.prog 2 { size := 1, bytes := 8, zero := [.lit (.int .i64 0)], kind := .int .i64 } := tiOk_mk (by kernel_rfl) (by kernel_rfl) (by kernel_rfl) (by kernel_rfl) (by kernel_rfl) ((by show Try.prog.underlying 2 = some _; kernel_rfl))
theorem tio3 : TiOk Try.prog 3 { size := 1, bytes := 8, zero := [.lit (.int .i64 0)], kind := .int .i64 } := tiOk_mk (by kernel_rfl) (by kernel_rfl) (by kernel_rfl) (by kernel_rfl) (by kernel_rfl) ((by show Try.prog.underlying 3 = some _; kernel_rfl))
theorem tio4 : TiOk Try.prog 4 { size := 1, bytes := 1, zero := [.lit (.bool false)], kind := .bool } := tiOk_mk (by kernel_rfl) (by kernel_rfl) (by kernel_rfl) (by kernel_rfl) (by kernel_rfl) ((by show Try.prog.underlying 4 = some _; kernel_rfl))
theorem tio5 : TiOk Try.prog 5 { size := 1, bytes := 1, zero := [.lit (.int .u8 0)], kind := .int .u8 } := tiOk_mk (by kernel_rfl) (by kernel_rfl) (by kernel_rfl) (by kernel_rfl) (by kernel_rfl) ((by show Try.prog.underlying 5 = some _; kernel_rfl))
theorem tio6 : TiOk Try.prog 6 { size := 1, bytes := 1, zero := [.lit (.int .u8 0)], kind := .int .u8 } := tiOk_mk (by kernel_rfl) (by kernel_rfl) (by kernel_rfl) (by kernel_rfl) (by kernel_rfl) ((by show Try.prog.underlying 6 = some _; kernel_rfl))
theorem tio7 : TiOk Try.prog 7 { size := 4, bytes := 24, zero := [.lit (.int .i64 0), .lit (.int .i64 0), .lit (.bool false), .lit (.int .u8 0)], kind := .struct [(0, 2), (1, 3), (2, 4), (3, 6)] } := tiOk_mk (by kernel_rfl) (by kernel_rfl) (by kernel_rfl) (by kernel_rfl) (by kernel_rfl) (kind_struct (by kernel_rfl) (by kernel_rfl))
theorem tio8 : TiOk Try.prog 8 { size := 4, bytes := 24, zero := [.lit (.int .i64 0), .lit (.int .i64 0), .lit (.bool false), .lit (.int .u8 0)], kind := .struct [(0, 2), (1, 3), (2, 4), (3, 6)] } := tiOk_mk (by kernel_rfl) (by kernel_rfl) (by kernel_rfl) (by kernel_rfl) (by kernel_rfl) (kind_struct (by kernel_rfl) (by kernel_rfl))
theorem tio9 : TiOk Try.prog 9 { size := 1, bytes := 16, zero := [.lit (.string ⟨#[]⟩)], kind := .str } := tiOk_mk (by kernel_rfl) (by kernel_rfl) (by kernel_rfl) (by kernel_rfl) (by kernel_rfl) ((by show Try.prog.underlying 9 = some _; kernel_rfl))
theorem tio10 : TiOk Try.prog 10 { size := 1, bytes := 16, zero := [.lit (.string ⟨#[]⟩)], kind := .str } := tiOk_mk (by kernel_rfl) (by kernel_rfl) (by kernel_rfl) (by kernel_rfl) (by kernel_rfl) ((by show Try.prog.underlying 10 = some _; kernel_rfl))
theorem tio11 : TiOk Try.prog 11 { size := 1, bytes := 16, zero := [.lit (.string ⟨#[]⟩)], kind := .str } := tiOk_mk (by kernel_rfl) (by kernel_rfl) (by kernel_rfl) (by kernel_rfl) (by kernel_rfl) ((by show Try.prog.underlying 11 = some _; kernel_rfl))
theorem tio12 : TiOk Try.prog 12 { size := 1, bytes := 8, zero := [.lit (.int .u64 0)], kind := .int .u64 } := tiOk_mk (by kernel_rfl) (by kernel_rfl) (by kernel_rfl) (by kernel_rfl) (by kernel_rfl) ((by show Try.prog.underlying 12 = some _; kernel_rfl))
theorem tio13 : TiOk Try.prog 13 { size := 2, bytes := 24, zero := [.lit (.string ⟨#[]⟩), .lit (.int .u64 0)], kind := .struct [(0, 9), (1, 12)] } := tiOk_mk (by kernel_rfl) (by kernel_rfl) (by kernel_rfl) (by kernel_rfl) (by kernel_rfl) (kind_struct (by kernel_rfl) (by kernel_rfl))
theorem tio14 : TiOk Try.prog 14 { size := 2, bytes := 24, zero := [.lit (.string ⟨#[]⟩), .lit (.int .u64 0)], kind := .struct [(0, 9), (1, 12)] } := tiOk_mk (by kernel_rfl) (by kernel_rfl) (by kernel_rfl) (by kernel_rfl) (by kernel_rfl) (kind_struct (by kernel_rfl) (by kernel_rfl))
theorem tio15 : TiOk Try.prog 15 { size := 1, bytes := 8, zero := [.lit (.pointer none)], kind := .other } := tiOk_mk (by kernel_rfl) (by kernel_rfl) (by kernel_rfl) (by kernel_rfl) (by kernel_rfl) (kind_other (by kernel_rfl))
theorem tio16 : TiOk Try.prog 16 { size := 1, bytes := 8, zero := [.lit (.pointer none)], kind := .other } := tiOk_mk (by kernel_rfl) (by kernel_rfl) (by kernel_rfl) (by kernel_rfl) (by kernel_rfl) (kind_other (by kernel_rfl))
theorem tio17 : TiOk Try.prog 17 { size := 1, bytes := 8, zero := [.lit (.pointer none)], kind := .other } := tiOk_mk (by kernel_rfl) (by kernel_rfl) (by kernel_rfl) (by kernel_rfl) (by kernel_rfl) (kind_other (by kernel_rfl))
theorem tio18 : TiOk Try.prog 18 { size := 1, bytes := 8, zero := [.lit (.pointer none)], kind := .struct [(0, 17)] } := tiOk_mk (by kernel_rfl) (by kernel_rfl) (by kernel_rfl) (by kernel_rfl) (by kernel_rfl) (kind_struct (by kernel_rfl) (by kernel_rfl))
theorem tio19 : TiOk Try.prog 19 { size := 1, bytes := 8, zero := [.lit (.pointer none)], kind := .struct [(0, 17)] } := tiOk_mk (by kernel_rfl) (by kernel_rfl) (by kernel_rfl) (by kernel_rfl) (by kernel_rfl) (kind_struct (by kernel_rfl) (by kernel_rfl))
theorem tio21 : TiOk Try.prog 21 { size := 1, bytes := 4, zero := [.lit (.int .i32 0)], kind := .int .i32 } := tiOk_mk (by kernel_rfl) (by kernel_rfl) (by kernel_rfl) (by kernel_rfl) (by kernel_rfl) ((by show Try.prog.underlying 21 = some _; kernel_rfl))
theorem tio22 : TiOk Try.prog 22 { size := 1, bytes := 24, zero := [.nil], kind := .slice 31 } := tiOk_mk (by kernel_rfl) (by kernel_rfl) (by kernel_rfl) (by kernel_rfl) (by kernel_rfl) ((by show Try.prog.underlying 22 = some _; kernel_rfl))
theorem tio23 : TiOk Try.prog 23 { size := 1, bytes := 8, zero := [.lit (.pointer none)], kind := .other } := tiOk_mk (by kernel_rfl) (by kernel_rfl) (by kernel_rfl) (by kernel_rfl) (by kernel_rfl) (kind_other (by kernel_rfl))
theorem tio26 : TiOk Try.prog 26 { size := 1, bytes := 8, zero := [.lit (.pointer none)], kind := .other } := tiOk_mk (by kernel_rfl) (by kernel_rfl) (by kernel_rfl) (by kernel_rfl) (by kernel_rfl) (kind_other (by kernel_rfl))
theorem tio27 : TiOk Try.prog 27 { size := 1, bytes := 24, zero := [.nil], kind := .slice 38 } := tiOk_mk (by kernel_rfl) (by kernel_rfl) (by kernel_rfl) (by kernel_rfl) (by kernel_rfl) ((by show Try.prog.underlying 27 = some _; kernel_rfl))
theorem tio28 : TiOk Try.prog 28 { size := 1, bytes := 24, zero := [.nil], kind := .struct [(0, 27)] } := tiOk_mk (by kernel_rfl) (by kernel_rfl) (by kernel_rfl) (by kernel_rfl) (by kernel_rfl) (kind_struct (by kernel_rfl) (by kernel_rfl))
theorem tio29 : TiOk Try.prog 29 { size := 1, bytes := 24, zero := [.nil], kind := .struct [(0, 27)] } := tiOk_mk (by kernel_rfl) (by kernel_rfl) (by kernel_rfl) (by kernel_rfl) (by kernel_rfl) (kind_struct (by kernel_rfl) (by kernel_rfl))
theorem tio30 : TiOk Try.prog 30 { size := 3, bytes := 24, zero := [.lit (.int .i64 0), .lit (.int .i64 0), .lit (.int .i64 0)], kind := .struct [(0, 3), (1, 3), (2, 3)] } := tiOk_mk (by kernel_rfl) (by kernel_rfl) (by kernel_rfl) (by kernel_rfl) (by kernel_rfl) (kind_struct (by kernel_rfl) (by kernel_rfl))
theorem tio31 : TiOk Try.prog 31 { size := 3, bytes := 24, zero := [.lit (.int .i64 0), .lit (.int .i64 0), .lit (.int .i64 0)], kind := .struct [(0, 3), (1, 3), (2, 3)] } := tiOk_mk (by kernel_rfl) (by kernel_rfl) (by kernel_rfl) (by kernel_rfl) (by kernel_rfl) (kind_struct (by kernel_rfl) (by kernel_rfl))
theorem tio33 : TiOk Try.prog 33 { size := 4, bytes := 32, zero := [.lit (.int .i64 0), .lit (.int .i64 0), .lit (.int .i64 0), .lit (.int .i64 0)], kind := .array 4 3 } := tiOk_mk (by kernel_rfl) (by kernel_rfl) (by kernel_rfl) (by kernel_rfl) (by kernel_rfl) ((by show Try.prog.underlying 33 = some _; kernel_rfl))
theorem tio37 : TiOk Try.prog 37 { size := 5, bytes := 40, zero := [.lit (.int .i64 0), .lit (.int .i64 0), .lit (.int .i64 0), .lit (.int .i64 0), .lit (.int .i64 0)], kind := .struct [(0, 3), (1, 33)] } := tiOk_mk (by kernel_rfl) (by kernel_rfl) (by kernel_rfl) (by kernel_rfl) (by kernel_rfl) (kind_struct (by kernel_rfl) (by kernel_rfl))
theorem tio38 : TiOk Try.prog 38 { size := 5, bytes := 40, zero := [.lit (.int .i64 0), .lit (.int .i64 0), .lit (.int .i64 0), .lit (.int .i64 0), .lit (.int .i64 0)], kind := .struct [(0, 3), (1, 33)] } := tiOk_mk (by kernel_rfl) (by kernel_rfl) (by kernel_rfl) (by kernel_rfl) (by kernel_rfl) (kind_struct (by kernel_rfl) (by kernel_rfl))
theorem tio39 : TiOk Try.prog 39 { size := 1, bytes := 24, zero := [.nil], kind := .slice 3 } := tiOk_mk (by kernel_rfl) (by kernel_rfl) (by kernel_rfl) (by kernel_rfl) (by kernel_rfl) ((by show Try.prog.underlying 39 = some _; kernel_rfl))
theorem tio45 : TiOk Try.prog 45 { size := 1, bytes := 8, zero := [.lit (.int .i64 0)], kind := .int .i64 } := tiOk_mk (by kernel_rfl) (by kernel_rfl) (by kernel_rfl) (by kernel_rfl) (by kernel_rfl) ((by show Try.prog.underlying 45 = some _; kernel_rfl))
theorem tio49 : TiOk Try.prog 49 { size := 1, bytes := 8, zero := [.lit (.map none)], kind := .other } := tiOk_mk (by kernel_rfl) (by kernel_rfl) (by kernel_rfl) (by kernel_rfl) (by kernel_rfl) (kind_other (by kernel_rfl))
theorem tio50 : TiOk Try.prog 50 { size := 1, bytes := 8, zero := [.lit (.map none)], kind := .struct [(0, 49)] } := tiOk_mk (by kernel_rfl) (by kernel_rfl) (by kernel_rfl) (by kernel_rfl) (by kernel_rfl) (kind_struct (by kernel_rfl) (by kernel_rfl))
theorem tio51 : TiOk Try.prog 51 { size := 1, bytes := 8, zero := [.lit (.map none)], kind := .struct [(0, 49)] } := tiOk_mk (by kernel_rfl) (by kernel_rfl) (by kernel_rfl) (by kernel_rfl) (by kernel_rfl) (kind_struct (by kernel_rfl) (by kernel_rfl))
theorem tio65 : TiOk Try.prog 65 { size := 1, bytes := 8, zero := [.lit (.int .u64 0)], kind := .int .u64 } := tiOk_mk (by kernel_rfl) (by kernel_rfl) (by kernel_rfl) (by kernel_rfl) (by kernel_rfl) ((by show Try.prog.underlying 65 = some _; kernel_rfl))
theorem tio67 : TiOk Try.prog 67 { size := 1, bytes := 8, zero := [.lit (.int .i64 0)], kind := .int .i64 } := tiOk_mk (by kernel_rfl) (by kernel_rfl) (by kernel_rfl) (by kernel_rfl) (by kernel_rfl) ((by show Try.prog.underlying 67 = some _; kernel_rfl))
theorem tio76 : TiOk Try.prog 76 { size := 1, bytes := 4, zero := [.lit (.int .u32 0)], kind := .int .u32 } := tiOk_mk (by kernel_rfl) (by kernel_rfl) (by kernel_rfl) (by kernel_rfl) (by kernel_rfl) ((by show Try.prog.underlying 76 = some _; kernel_rfl))
theorem tio78 : TiOk Try.prog 78 { size := 1, bytes := 8, zero := [.lit (.int .u64 0)], kind := .int .u64 } := tiOk_mk (by kernel_rfl) (by kernel_rfl) (by kernel_rfl) (by kernel_rfl) (by kernel_rfl) ((by show Try.prog.underlying 78 = some _; kernel_rfl))
theorem tio79 : TiOk Try.prog 79 { size := 1, bytes := 8, zero := [.lit (.int .u64 0)], kind := .int .u64 } := tiOk_mk (by kernel_rfl) (by kernel_rfl) (by kernel_rfl) (by kernel_rfl) (by kernel_rfl) ((by show Try.prog.underlying 79 = some _; kernel_rfl))
theorem tio83 : TiOk Try.prog 83 { size := 1, bytes := 8, zero := [.lit (.pointer none)], kind := .other } := tiOk_mk (by kernel_rfl) (by kernel_rfl) (by kernel_rfl) (by kernel_rfl) (by kernel_rfl) (kind_other (by kernel_rfl))
theorem tio85 : TiOk Try.prog 85 { size := 1, bytes := 8, zero := [.lit (.pointer none)], kind := .other } := tiOk_mk (by kernel_rfl) (by kernel_rfl) (by kernel_rfl) (by kernel_rfl) (by kernel_rfl) (kind_other (by kernel_rfl))
theorem tio89 : TiOk Try.prog 89 { size := 4, bytes := 40, zero := [.lit (.pointer none), .lit (.pointer none), .lit (.pointer none), .lit (.string ⟨#[]⟩)], kind := .struct [(0, 17), (1, 17), (2, 17), (3, 9)] } := tiOk_mk (by kernel_rfl) (by kernel_rfl) (by kernel_rfl) (by kernel_rfl) (by kernel_rfl) (kind_struct (by kernel_rfl) (by kernel_rfl))
theorem tio90 : TiOk Try.prog 90 { size := 4, bytes := 40, zero := [.lit (.pointer none), .lit (.pointer none), .lit (.pointer none), .lit (.string ⟨#[]⟩)], kind := .struct [(0, 17), (1, 17), (2, 17), (3, 9)] } := tiOk_mk (by kernel_rfl) (by kernel_rfl) (by kernel_rfl) (by kernel_rfl) (by kernel_rfl) (kind_struct (by kernel_rfl) (by kernel_rfl))
theorem tio91 : TiOk Try.prog 91 { size := 0, bytes := 0, zero := [], kind := .array 0 16 } := tiOk_mk (by kernel_rfl) (by kernel_rfl) (by kernel_rfl) (by kernel_rfl) (by kernel_rfl) ((by show Try.prog.underlying 91 = some _; kernel_rfl))
theorem tio92 : TiOk Try.prog 92 { size := 0, bytes := 0, zero := [], kind := .struct [(0, 91)] } := tiOk_mk (by kernel_rfl) (by kernel_rfl) (by kernel_rfl) (by kernel_rfl) (by kernel_rfl) (kind_struct (by kernel_rfl) (by kernel_rfl))
theorem tio93 : TiOk Try.prog 93 { size := 0, bytes := 0, zero := [], kind := .struct [(0, 91)] } := tiOk_mk (by kernel_rfl) (by kernel_rfl) (by kernel_rfl) (by kernel_rfl) (by kernel_rfl) (kind_struct (by kernel_rfl) (by kernel_rfl))
theorem tio95 : TiOk Try.prog 95 { size := 1, bytes := 1, zero := [.lit (.int .u8 0)], kind := .int .u8 } := tiOk_mk (by kernel_rfl) (by kernel_rfl) (by kernel_rfl) (by kernel_rfl) (by kernel_rfl) ((by show Try.prog.underlying 95 = some _; kernel_rfl))
theorem tio96 : TiOk Try.prog 96 { size := 1, bytes := 1, zero := [.lit (.int .u8 0)], kind := .int .u8 } := tiOk_mk (by kernel_rfl) (by kernel_rfl) (by kernel_rfl) (by kernel_rfl) (by kernel_rfl) ((by show Try.prog.underlying 96 = some _; kernel_rfl))
theorem tio98 : TiOk Try.prog 98 { size := 1, bytes := 8, zero := [.lit (.pointer none)], kind := .other } := tiOk_mk (by kernel_rfl) (by kernel_rfl) (by kernel_rfl) (by kernel_rfl) (by kernel_rfl) (kind_other (by kernel_rfl))
theorem tio99 : TiOk Try.prog 99 { size := 1, bytes := 4, zero := [.lit (.int .i32 0)], kind := .int .i32 } := tiOk_mk (by kernel_rfl) (by kernel_rfl) (by kernel_rfl) (by kernel_rfl) (by kernel_rfl) ((by show Try.prog.underlying 99 = some _; kernel_rfl))
theorem tio100 : TiOk Try.prog 100 { size := 1, bytes := 4, zero := [.lit (.int .i32 0)], kind := .int .i32 } := tiOk_mk (by kernel_rfl) (by kernel_rfl) (by kernel_rfl) (by kernel_rfl) (by kernel_rfl) ((by show Try.prog.underlying 100 = some _; kernel_rfl))
theorem ti_ok : ∀ t i, tiT t = some i → TiOk Try.prog t i := by
  intro t i h
  unfold tiT at h
  split at h
  · obtain rfl := Option.some.inj h; exact tio2
  · obtain rfl := Option.some.inj h; exact tio3
  · obtain rfl := Option.some.inj h; exact tio4
  · obtain rfl := Option.some.inj h; exact tio5
  · obtain rfl := Option.some.inj h; exact tio6
  · obtain rfl := Option.some.inj h; exact tio7
  · obtain rfl := Option.some.inj h; exact tio8
  · obtain rfl := Option.some.inj h; exact tio9
  · obtain rfl := Option.some.inj h; exact tio10
  · obtain rfl := Option.some.inj h; exact tio11
  · obtain rfl := Option.some.inj h; exact tio12
  · obtain rfl := Option.some.inj h; exact tio13
  · obtain rfl := Option.some.inj h; exact tio14
  · obtain rfl := Option.some.inj h; exact tio15
  · obtain rfl := Option.some.inj h; exact tio16
  · obtain rfl := Option.some.inj h; exact tio17
  · obtain rfl := Option.some.inj h; exact tio18
  · obtain rfl := Option.some.inj h; exact tio19
  · obtain rfl := Option.some.inj h; exact tio21
  · obtain rfl := Option.some.inj h; exact tio22
  · obtain rfl := Option.some.inj h; exact tio23
  · obtain rfl := Option.some.inj h; exact tio26
  · obtain rfl := Option.some.inj h; exact tio27
  · obtain rfl := Option.some.inj h; exact tio28
  · obtain rfl := Option.some.inj h; exact tio29
  · obtain rfl := Option.some.inj h; exact tio30
  · obtain rfl := Option.some.inj h; exact tio31
  · obtain rfl := Option.some.inj h; exact tio33
  · obtain rfl := Option.some.inj h; exact tio37
  · obtain rfl := Option.some.inj h; exact tio38
  · obtain rfl := Option.some.inj h; exact tio39
  · obtain rfl := Option.some.inj h; exact tio45
  · obtain rfl := Option.some.inj h; exact tio49
  · obtain rfl := Option.some.inj h; exact tio50
  · obtain rfl := Option.some.inj h; exact tio51
  · obtain rfl := Option.some.inj h; exact tio65
  · obtain rfl := Option.some.inj h; exact tio67
  · obtain rfl := Option.some.inj h; exact tio76
  · obtain rfl := Option.some.inj h; exact tio78
  · obtain rfl := Option.some.inj h; exact tio79
  · obtain rfl := Option.some.inj h; exact tio83
  · obtain rfl := Option.some.inj h; exact tio85
  · obtain rfl := Option.some.inj h; exact tio89
  · obtain rfl := Option.some.inj h; exact tio90
  · obtain rfl := Option.some.inj h; exact tio91
  · obtain rfl := Option.some.inj h; exact tio92
  · obtain rfl := Option.some.inj h; exact tio93
  · obtain rfl := Option.some.inj h; exact tio95
  · obtain rfl := Option.some.inj h; exact tio96
  · obtain rfl := Option.some.inj h; exact tio98
  · obtain rfl := Option.some.inj h; exact tio99
  · obtain rfl := Option.some.inj h; exact tio100
  · cases h
theorem fno3 : Try.prog.funcs[3]? = some Try.f3 ∧ (Try.f3.name == "runtime.NumGoroutine") = false ∧ Try.f3.body.isSome = true := ⟨Try.func3, by kernel_rfl, by kernel_rfl⟩
theorem fnc3 : (match Try.f3.body with | some c => codeOk (cxT 3) c && noDup (loopIds c) | none => true) = true := by kernel_rfl
theorem fno4 : Try.prog.funcs[4]? = some Try.f4 ∧ (Try.f4.name == "runtime.NumGoroutine") = false ∧ Try.f4.body.isSome = true := ⟨Try.func4, by kernel_rfl, by kernel_rfl⟩
theorem fnc4 : (match Try.f4.body with | some c => codeOk (cxT 4) c && noDup (loopIds c) | none => true) = true := by kernel_rfl
theorem fno5 : Try.prog.funcs[5]? = some Try.f5 ∧ (Try.f5.name == "runtime.NumGoroutine") = false ∧ Try.f5.body.isSome = true := ⟨Try.func5, by kernel_rfl, by kernel_rfl⟩
theorem fnc5 : (match Try.f5.body with | some c => codeOk (cxT 5) c && noDup (loopIds c) | none => true) = true := by kernel_rfl
theorem fno6 : Try.prog.funcs[6]? = some Try.f6 ∧ (Try.f6.name == "runtime.NumGoroutine") = false ∧ Try.f6.body.isSome = true := ⟨Try.func6, by kernel_rfl, by kernel_rfl⟩
theorem fnc6 : (match Try.f6.body with | some c => codeOk (cxT 6) c && noDup (loopIds c) | none => true) = true := by kernel_rfl
theorem fno7 : Try.prog.funcs[7]? = some Try.f7 ∧ (Try.f7.name == "runtime.NumGoroutine") = false ∧ Try.f7.body.isSome = true := ⟨Try.func7, by kernel_rfl, by kernel_rfl⟩
theorem fnc7 : (match Try.f7.body with | some c => codeOk (cxT 7) c && noDup (loopIds c) | none => true) = true := by kernel_rfl
theorem fno9 : Try.prog.funcs[9]? = some Try.f9 ∧ (Try.f9.name == "runtime.NumGoroutine") = false ∧ Try.f9.body.isSome = true := ⟨Try.func9, by kernel_rfl, by kernel_rfl⟩
theorem fnc9 : (match Try.f9.body with | some c => codeOk (cxT 9) c && noDup (loopIds c) | none => true) = true := by kernel_rfl
theorem fno10 : Try.prog.funcs[10]? = some Try.f10 ∧ (Try.f10.name == "runtime.NumGoroutine") = false ∧ Try.f10.body.isSome = true := ⟨Try.func10, by kernel_rfl, by kernel_rfl⟩
theorem fnc10 : (match Try.f10.body with | some c => codeOk (cxT 10) c && noDup (loopIds c) | none => true) = true := by kernel_rfl
theorem fno11 : Try.prog.funcs[11]? = some Try.f11 ∧ (Try.f11.name == "runtime.NumGoroutine") = false ∧ Try.f11.body.isSome = true := ⟨Try.func11, by kernel_rfl, by kernel_rfl⟩
theorem fnc11 : (match Try.f11.body with | some c => codeOk (cxT 11) c && noDup (loopIds c) | none => true) = true := by kernel_rfl
theorem fno12 : Try.prog.funcs[12]? = some Try.f12 ∧ (Try.f12.name == "runtime.NumGoroutine") = false ∧ Try.f12.body.isSome = true := ⟨Try.func12, by kernel_rfl, by kernel_rfl⟩
theorem fnc12 : (match Try.f12.body with | some c => codeOk (cxT 12) c && noDup (loopIds c) | none => true) = true := by kernel_rfl
theorem fno15 : Try.prog.funcs[15]? = some Try.f15 ∧ (Try.f15.name == "runtime.NumGoroutine") = false ∧ Try.f15.body.isSome = true := ⟨Try.func15, by kernel_rfl, by kernel_rfl⟩
theorem fnc15 : (match Try.f15.body with | some c => codeOk (cxT 15) c && noDup (loopIds c) | none => true) = true := by kernel_rfl
theorem fno16 : Try.prog.funcs[16]? = some Try.f16 ∧ (Try.f16.name == "runtime.NumGoroutine") = false ∧ Try.f16.body.isSome = true := ⟨Try.func16, by kernel_rfl, by kernel_rfl⟩
theorem fnc16 : (match Try.f16.body with | some c => codeOk (cxT 16) c && noDup (loopIds c) | none => true) = true := by kernel_rfl
theorem fno17 : Try.prog.funcs[17]? = some Try.f17 ∧ (Try.f17.name == "runtime.NumGoroutine") = false ∧ Try.f17.body.isSome = true := ⟨Try.func17, by kernel_rfl, by kernel_rfl⟩
theorem fnc17 : (match Try.f17.body with | some c => codeOk (cxT 17) c && noDup (loopIds c) | none => true) = true := by kernel_rfl
theorem fno18 : Try.prog.funcs[18]? = some Try.f18 ∧ (Try.f18.name == "runtime.NumGoroutine") = false ∧ Try.f18.body.isSome = true := ⟨Try.func18, by kernel_rfl, by kernel_rfl⟩
theorem fnc18 : (match Try.f18.body with | some c => codeOk (cxT 18) c && noDup (loopIds c) | none => true) = true := by kernel_rfl
theorem fno19 : Try.prog.funcs[19]? = some Try.f19 ∧ (Try.f19.name == "runtime.NumGoroutine") = false ∧ Try.f19.body.isSome = true := ⟨Try.func19, by kernel_rfl, by kernel_rfl⟩
theorem fnc19 : (match Try.f19.body with | some c => codeOk (cxT 19) c && noDup (loopIds c) | none => true) = true := by kernel_rfl
theorem fno20 : Try.prog.funcs[20]? = some Try.f20 ∧ (Try.f20.name == "runtime.NumGoroutine") = false ∧ Try.f20.body.isSome = true := ⟨Try.func20, by kernel_rfl, by kernel_rfl⟩
theorem fnc20 : (match Try.f20.body with | some c => codeOk (cxT 20) c && noDup (loopIds c) | none => true) = true := by kernel_rfl
theorem fno21 : Try.prog.funcs[21]? = some Try.f21 ∧ (Try.f21.name == "runtime.NumGoroutine") = false ∧ Try.f21.body.isSome = true := ⟨Try.func21, by kernel_rfl, by kernel_rfl⟩
theorem fnc21 : (match Try.f21.body with | some c => codeOk (cxT 21) c && noDup (loopIds c) | none => true) = true := by kernel_rfl
theorem fno22 : Try.prog.funcs[22]? = some Try.f22 ∧ (Try.f22.name == "runtime.NumGoroutine") = false ∧ Try.f22.body.isSome = true := ⟨Try.func22, by kernel_rfl, by kernel_rfl⟩
theorem fnc22 : (match Try.f22.body with | some c => codeOk (cxT 22) c && noDup (loopIds c) | none => true) = true := by kernel_rfl
theorem fno23 : Try.prog.funcs[23]? = some Try.f23 ∧ (Try.f23.name == "runtime.NumGoroutine") = false ∧ Try.f23.body.isSome = true := ⟨Try.func23, by kernel_rfl, by kernel_rfl⟩
theorem fnc23 : (match Try.f23.body with | some c => codeOk (cxT 23) c && noDup (loopIds c) | none => true) = true := by kernel_rfl
theorem fno27 : Try.prog.funcs[27]? = some Try.f27 ∧ (Try.f27.name == "runtime.NumGoroutine") = false ∧ Try.f27.body.isSome = true := ⟨Try.func27, by kernel_rfl, by kernel_rfl⟩
theorem fnc27 : (match Try.f27.body with | some c => codeOk (cxT 27) c && noDup (loopIds c) | none => true) = true := by kernel_rfl
theorem fno28 : Try.prog.funcs[28]? = some Try.f28 ∧ (Try.f28.name == "runtime.NumGoroutine") = false ∧ Try.f28.body.isSome = true := ⟨Try.func28, by kernel_rfl, by kernel_rfl⟩
theorem fnc28 : (match Try.f28.body with | some c => codeOk (cxT 28) c && noDup (loopIds c) | none => true) = true := by kernel_rfl
theorem fno29 : Try.prog.funcs[29]? = some Try.f29 ∧ (Try.f29.name == "runtime.NumGoroutine") = false ∧ Try.f29.body.isSome = true := ⟨Try.func29, by kernel_rfl, by kernel_rfl⟩
theorem fnc29 : (match Try.f29.body with | some c => codeOk (cxT 29) c && noDup (loopIds c) | none => true) = true := by kernel_rfl
theorem fn_ok : ∀ f fn, fnT f = some fn → Try.prog.funcs[f]? = some fn ∧ (fn.name == "runtime.NumGoroutine") = false ∧ fn.body.isSome = true := by
  intro f fn h
  unfold fnT at h
  split at h
  · obtain rfl := Option.some.inj h; exact fno3
  · obtain rfl := Option.some.inj h; exact fno4
  · obtain rfl := Option.some.inj h; exact fno5
  · obtain rfl := Option.some.inj h; exact fno6
  · obtain rfl := Option.some.inj h; exact fno7
  · obtain rfl := Option.some.inj h; exact fno9
  · obtain rfl := Option.some.inj h; exact fno10
  · obtain rfl := Option.some.inj h; exact fno11
  · obtain rfl := Option.some.inj h; exact fno12
  · obtain rfl := Option.some.inj h; exact fno15
  · obtain rfl := Option.some.inj h; exact fno16
  · obtain rfl := Option.some.inj h; exact fno17
  · obtain rfl := Option.some.inj h; exact fno18
  · obtain rfl := Option.some.inj h; exact fno19
  · obtain rfl := Option.some.inj h; exact fno20
  · obtain rfl := Option.some.inj h; exact fno21
  · obtain rfl := Option.some.inj h; exact fno22
  · obtain rfl := Option.some.inj h; exact fno23
  · obtain rfl := Option.some.inj h; exact fno27
  · obtain rfl := Option.some.inj h; exact fno28
  · obtain rfl := Option.some.inj h; exact fno29
  · cases h
theorem code_ok : ∀ f fn c, fnT f = some fn → fn.body = some c → codeOk (cxT f) c = true ∧ noDup (loopIds c) = true := by
  intro f fn c h hb
  unfold fnT at h
  split at h
  · obtain rfl := Option.some.inj h; have := fnc3; rw [hb] at this; simpa only [Bool.and_eq_true] using this
  · obtain rfl := Option.some.inj h; have := fnc4; rw [hb] at this; simpa only [Bool.and_eq_true] using this
  · obtain rfl := Option.some.inj h; have := fnc5; rw [hb] at this; simpa only [Bool.and_eq_true] using this
  · obtain rfl := Option.some.inj h; have := fnc6; rw [hb] at this; simpa only [Bool.and_eq_true] using this
  · obtain rfl := Option.some.inj h; have := fnc7; rw [hb] at this; simpa only [Bool.and_eq_true] using this
  · obtain rfl := Option.some.inj h; have := fnc9; rw [hb] at this; simpa only [Bool.and_eq_true] using this
  · obtain rfl := Option.some.inj h; have := fnc10; rw [hb] at this; simpa only [Bool.and_eq_true] using this
  · obtain rfl := Option.some.inj h; have := fnc11; rw [hb] at this; simpa only [Bool.and_eq_true] using this
  · obtain rfl := Option.some.inj h; have := fnc12; rw [hb] at this; simpa only [Bool.and_eq_true] using this
  · obtain rfl := Option.some.inj h; have := fnc15; rw [hb] at this; simpa only [Bool.and_eq_true] using this
  · obtain rfl := Option.some.inj h; have := fnc16; rw [hb] at this; simpa only [Bool.and_eq_true] using this
  · obtain rfl := Option.some.inj h; have := fnc17; rw [hb] at this; simpa only [Bool.and_eq_true] using this
  · obtain rfl := Option.some.inj h; have := fnc18; rw [hb] at this; simpa only [Bool.and_eq_true] using this
  · obtain rfl := Option.some.inj h; have := fnc19; rw [hb] at this; simpa only [Bool.and_eq_true] using this
  · obtain rfl := Option.some.inj h; have := fnc20; rw [hb] at this; simpa only [Bool.and_eq_true] using this
  · obtain rfl := Option.some.inj h; have := fnc21; rw [hb] at this; simpa only [Bool.and_eq_true] using this
  · obtain rfl := Option.some.inj h; have := fnc22; rw [hb] at this; simpa only [Bool.and_eq_true] using this
  · obtain rfl := Option.some.inj h; have := fnc23; rw [hb] at this; simpa only [Bool.and_eq_true] using this
  · obtain rfl := Option.some.inj h; have := fnc27; rw [hb] at this; simpa only [Bool.and_eq_true] using this
  · obtain rfl := Option.some.inj h; have := fnc28; rw [hb] at this; simpa only [Bool.and_eq_true] using this
  · obtain rfl := Option.some.inj h; have := fnc29; rw [hb] at this; simpa only [Bool.and_eq_true] using this
  · cases h
theorem mixed : Try.prog.follows .mixedOrders = true := by kernel_rfl
theorem cmp_ok : ∀ t, cmpT t = true → Try.prog.underlying t = some (.struct (Try.prog.fieldsOf t)) ∧ Try.prog.stoodInHeld t = false ∧ Try.prog.eqGuardType Try.prog.depth t = false ∧ (Try.prog.fieldsOf t).toList.all (fun f => f.name != "_") = true := by
  intro t h
  unfold cmpT at h
  cases h
theorem cmpA_ok : ∀ t, cmpAT t = true → Try.prog.eqGuardType Try.prog.depth t = false := by
  intro t h
  unfold cmpAT at h
  simp only [Bool.or_eq_true, beq_iff_eq] at h
  rcases h with rfl
  · kernel_rfl
theorem mapo49 : ∃ k info us, Try.prog.underlying 49 = some (.map k 33) ∧ Try.prog.underlying k = some (.int .i64) ∧ Try.prog.info? 33 = some info ∧ info.zero = some (.agg us) := map_info (k := 3) (by kernel_rfl) (by kernel_rfl) (by kernel_rfl)
theorem mapT_ok : ∀ t e, mapTT t = some e → ∃ k info us, Try.prog.underlying t = some (.map k e) ∧ Try.prog.underlying k = some (.int .i64) ∧ Try.prog.info? e = some info ∧ info.zero = some (.agg us) := by
  intro t e h
  unfold mapTT at h
  split at h
  · rename_i hh; subst hh; obtain rfl := Option.some.inj h; exact mapo49
  · cases h
theorem ptr_ok : ∀ t, ptrTT t = true → ∃ te j, Try.prog.underlying t = some (.pointer te) ∧ Try.prog.info? te = some j ∧ j.size ≠ 0 := by
  intro t h
  unfold ptrTT at h
  simp only [Bool.or_eq_true, beq_iff_eq] at h
  rcases h with rfl | rfl
  · obtain ⟨info, z, h1, h2, _⟩ := tio51.info; exact ⟨51, info, by kernel_rfl, h1, by rw [h2]; decide⟩
  · obtain ⟨info, z, h1, h2, _⟩ := tio29.info; exact ⟨29, info, by kernel_rfl, h1, by rw [h2]; decide⟩
theorem uns_ok : ∀ t, unsPT t = true → Try.prog.underlying t = some .unsafePointer := by
  intro t h
  unfold unsPT at h
  simp only [Bool.or_eq_true, beq_iff_eq] at h
  rcases h with rfl
  · kernel_rfl
theorem byteP_ok : ∀ t, bytePT t = true → Try.prog.underlying t = some (.pointer 5) ∧ Try.prog.cellsOf 5 = 1 := by
  intro t h
  unfold bytePT at h
  simp only [Bool.or_eq_true, beq_iff_eq] at h
  rcases h with rfl
  · exact ⟨by kernel_rfl, by kernel_rfl⟩
theorem unsTo_ok : ∀ T t n, unsToT T t = some n → ∃ u j, Try.prog.underlying t = some (.pointer u) ∧ Try.prog.info? u = some j ∧ liesAt Try.prog Try.prog.depth T (n / Try.prog.cellsOf T) 0 u 1 = true := by
  intro T t n h
  unfold unsToT at h
  cases h
theorem hook_ok : ∀ f h, hookT f = some h → HookFn Try.prog f h := by
  intro f h hh
  unfold hookT at hh
  split at hh
  · rename_i e; subst e; obtain rfl := Option.some.inj hh; exact hook14_ok
  split at hh
  · rename_i e; subst e; obtain rfl := Option.some.inj hh; exact hook13_ok
  split at hh
  · rename_i e; subst e; obtain rfl := Option.some.inj hh; exact hook8_ok
  · cases hh
theorem byte_ok : ∀ j, tiT 5 = some j → j.size = 1 ∧ Try.prog.cellsOf 5 = 1 := by
  intro j h; obtain rfl := Option.some.inj ((show tiT 5 = some _ from rfl).symm.trans h); exact ⟨rfl, by kernel_rfl⟩
theorem cfg_ok : CfgOk Try.prog cfg := ⟨fn_ok, ti_ok, mixed, code_ok, cmp_ok, cmpA_ok, mapT_ok, ptr_ok, uns_ok, unsTo_ok, hook_ok, byteP_ok, byte_ok⟩
end Go.Proofs.Ytgppmcpbphgnnaa
