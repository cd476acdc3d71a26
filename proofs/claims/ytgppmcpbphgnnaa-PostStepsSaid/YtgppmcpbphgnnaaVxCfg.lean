/- The abstract interpreter's table for this seat: bodies, types, tables, policies. Written by a program (vxgen.py). -/
import Derived.Test.YtgppmcpbphgnnaaProg
import Derived.Test.YtgppmcpbphgnnaaVa
set_option linter.unusedSimpArgs false
set_option linter.unusedVariables false
set_option linter.unusedSectionVars false
namespace Go.Proofs.Ytgppmcpbphgnnaa
open Go Go.Vx

noncomputable def fnT : Nat → Option Func
  | 3 => some Try.f3
  | 4 => some Try.f4
  | 5 => some Try.f5
  | 6 => some Try.f6
  | 7 => some Try.f7
  | 9 => some Try.f9
  | 10 => some Try.f10
  | 11 => some Try.f11
  | 12 => some Try.f12
  | 15 => some Try.f15
  | 16 => some Try.f16
  | 17 => some Try.f17
  | 18 => some Try.f18
  | 19 => some Try.f19
  | 20 => some Try.f20
  | 21 => some Try.f21
  | 22 => some Try.f22
  | 23 => some Try.f23
  | 27 => some Try.f27
  | 28 => some Try.f28
  | 29 => some Try.f29
  | _ => none

def tiT : Nat → Option TI
  | 2 => some { size := 1, bytes := 8, zero := [.lit (.int .i64 0)], kind := .int .i64 }
  | 3 => some { size := 1, bytes := 8, zero := [.lit (.int .i64 0)], kind := .int .i64 }
  | 4 => some { size := 1, bytes := 1, zero := [.lit (.bool false)], kind := .bool }
  | 5 => some { size := 1, bytes := 1, zero := [.lit (.int .u8 0)], kind := .int .u8 }
  | 6 => some { size := 1, bytes := 1, zero := [.lit (.int .u8 0)], kind := .int .u8 }
  | 7 => some { size := 4, bytes := 24, zero := [.lit (.int .i64 0), .lit (.int .i64 0), .lit (.bool false), .lit (.int .u8 0)], kind := .struct [(0, 2), (1, 3), (2, 4), (3, 6)] }
  | 8 => some { size := 4, bytes := 24, zero := [.lit (.int .i64 0), .lit (.int .i64 0), .lit (.bool false), .lit (.int .u8 0)], kind := .struct [(0, 2), (1, 3), (2, 4), (3, 6)] }
  | 9 => some { size := 1, bytes := 16, zero := [.lit (.string ⟨#[]⟩)], kind := .str }
  | 10 => some { size := 1, bytes := 16, zero := [.lit (.string ⟨#[]⟩)], kind := .str }
  | 11 => some { size := 1, bytes := 16, zero := [.lit (.string ⟨#[]⟩)], kind := .str }
  | 12 => some { size := 1, bytes := 8, zero := [.lit (.int .u64 0)], kind := .int .u64 }
  | 13 => some { size := 2, bytes := 24, zero := [.lit (.string ⟨#[]⟩), .lit (.int .u64 0)], kind := .struct [(0, 9), (1, 12)] }
  | 14 => some { size := 2, bytes := 24, zero := [.lit (.string ⟨#[]⟩), .lit (.int .u64 0)], kind := .struct [(0, 9), (1, 12)] }
  | 15 => some { size := 1, bytes := 8, zero := [.lit (.pointer none)], kind := .other }
  | 16 => some { size := 1, bytes := 8, zero := [.lit (.pointer none)], kind := .other }
  | 17 => some { size := 1, bytes := 8, zero := [.lit (.pointer none)], kind := .other }
  | 18 => some { size := 1, bytes := 8, zero := [.lit (.pointer none)], kind := .struct [(0, 17)] }
  | 19 => some { size := 1, bytes := 8, zero := [.lit (.pointer none)], kind := .struct [(0, 17)] }
  | 21 => some { size := 1, bytes := 4, zero := [.lit (.int .i32 0)], kind := .int .i32 }
  | 22 => some { size := 1, bytes := 24, zero := [.nil], kind := .slice 31 }
  | 23 => some { size := 1, bytes := 8, zero := [.lit (.pointer none)], kind := .other }
  | 26 => some { size := 1, bytes := 8, zero := [.lit (.pointer none)], kind := .other }
  | 27 => some { size := 1, bytes := 24, zero := [.nil], kind := .slice 38 }
  | 28 => some { size := 1, bytes := 24, zero := [.nil], kind := .struct [(0, 27)] }
  | 29 => some { size := 1, bytes := 24, zero := [.nil], kind := .struct [(0, 27)] }
  | 30 => some { size := 3, bytes := 24, zero := [.lit (.int .i64 0), .lit (.int .i64 0), .lit (.int .i64 0)], kind := .struct [(0, 3), (1, 3), (2, 3)] }
  | 31 => some { size := 3, bytes := 24, zero := [.lit (.int .i64 0), .lit (.int .i64 0), .lit (.int .i64 0)], kind := .struct [(0, 3), (1, 3), (2, 3)] }
  | 33 => some { size := 4, bytes := 32, zero := [.lit (.int .i64 0), .lit (.int .i64 0), .lit (.int .i64 0), .lit (.int .i64 0)], kind := .array 4 3 }
  | 37 => some { size := 5, bytes := 40, zero := [.lit (.int .i64 0), .lit (.int .i64 0), .lit (.int .i64 0), .lit (.int .i64 0), .lit (.int .i64 0)], kind := .struct [(0, 3), (1, 33)] }
  | 38 => some { size := 5, bytes := 40, zero := [.lit (.int .i64 0), .lit (.int .i64 0), .lit (.int .i64 0), .lit (.int .i64 0), .lit (.int .i64 0)], kind := .struct [(0, 3), (1, 33)] }
  | 39 => some { size := 1, bytes := 24, zero := [.nil], kind := .slice 3 }
  | 45 => some { size := 1, bytes := 8, zero := [.lit (.int .i64 0)], kind := .int .i64 }
  | 49 => some { size := 1, bytes := 8, zero := [.lit (.map none)], kind := .other }
  | 50 => some { size := 1, bytes := 8, zero := [.lit (.map none)], kind := .struct [(0, 49)] }
  | 51 => some { size := 1, bytes := 8, zero := [.lit (.map none)], kind := .struct [(0, 49)] }
  | 65 => some { size := 1, bytes := 8, zero := [.lit (.int .u64 0)], kind := .int .u64 }
  | 67 => some { size := 1, bytes := 8, zero := [.lit (.int .i64 0)], kind := .int .i64 }
  | 76 => some { size := 1, bytes := 4, zero := [.lit (.int .u32 0)], kind := .int .u32 }
  | 78 => some { size := 1, bytes := 8, zero := [.lit (.int .u64 0)], kind := .int .u64 }
  | 79 => some { size := 1, bytes := 8, zero := [.lit (.int .u64 0)], kind := .int .u64 }
  | 83 => some { size := 1, bytes := 8, zero := [.lit (.pointer none)], kind := .other }
  | 85 => some { size := 1, bytes := 8, zero := [.lit (.pointer none)], kind := .other }
  | 89 => some { size := 4, bytes := 40, zero := [.lit (.pointer none), .lit (.pointer none), .lit (.pointer none), .lit (.string ⟨#[]⟩)], kind := .struct [(0, 17), (1, 17), (2, 17), (3, 9)] }
  | 90 => some { size := 4, bytes := 40, zero := [.lit (.pointer none), .lit (.pointer none), .lit (.pointer none), .lit (.string ⟨#[]⟩)], kind := .struct [(0, 17), (1, 17), (2, 17), (3, 9)] }
  | 91 => some { size := 0, bytes := 0, zero := [], kind := .array 0 16 }
  | 92 => some { size := 0, bytes := 0, zero := [], kind := .struct [(0, 91)] }
  | 93 => some { size := 0, bytes := 0, zero := [], kind := .struct [(0, 91)] }
  | 95 => some { size := 1, bytes := 1, zero := [.lit (.int .u8 0)], kind := .int .u8 }
  | 96 => some { size := 1, bytes := 1, zero := [.lit (.int .u8 0)], kind := .int .u8 }
  | 98 => some { size := 1, bytes := 8, zero := [.lit (.pointer none)], kind := .other }
  | 99 => some { size := 1, bytes := 4, zero := [.lit (.int .i32 0)], kind := .int .i32 }
  | 100 => some { size := 1, bytes := 4, zero := [.lit (.int .i32 0)], kind := .int .i32 }
  | _ => none

def cxT : Nat → Cx
  | 3 => { pol := [], segs := [(12, [3, 1, 1, 1, 1, 9, 1, 1, 1, 1, 1, 1, 1, 2, 1, 1, 1])], live := [(6, [1, 5, 6, 30, 31, 32], [4]), (18, [1, 5, 6, 12, 30, 31, 32, 88, 89, 90], [1, 4, 5, 6, 30, 31, 32])], mix := [] }
  | 4 => { pol := [], segs := [], live := [(8, [1, 5, 6, 7, 8, 41, 42, 43], [4])], mix := [] }
  | 5 => { pol := [], segs := [(17, [8, 1, 1]), (18, [6, 1, 1, 1, 6, 1, 1, 1])], live := [(7, [1, 2, 7, 8, 9, 39, 40, 41], [6])], mix := [] }
  | 6 => { pol := [], segs := [], live := [(6, [0, 1, 2, 7, 8, 42, 43, 44], [0, 1, 2, 7, 8]), (12, [0, 2, 7, 8, 11, 55, 56, 57], [0, 2, 11]), (19, [2, 11, 14, 15, 69, 70, 71], [2, 11, 15])], mix := [] }
  | 10 => { pol := [], segs := [(4, [7, 1, 1, 1]), (6, [7, 1, 1, 1]), (9, [11, 1, 1, 1]), (11, [11, 1, 1, 1])], live := [], mix := [(4, [3]), (6, [3]), (9, [5]), (11, [5])] }
  | 12 => { pol := [], segs := [], live := [(2, [1, 10, 11, 12], [4])], mix := [] }
  | 15 => { pol := [], segs := [(4, [3, 1, 1, 8, 1, 1])], live := [(2, [0, 1, 7, 8], [0, 1, 4])], mix := [] }
  | 22 => { pol := [], segs := [(8, [13, 1, 1])], live := [], mix := [] }
  | 23 => { pol := [], segs := [(6, [13, 1, 1])], live := [], mix := [] }
  | 27 => { pol := [], segs := [(12, [6, 1])], live := [], mix := [] }
  | _ => { pol := [], segs := [], live := [], mix := [] }

def glT : Nat → Option (List D)
  | _ => none

def cmpT (t : Nat) : Bool := false
def cmpAT (t : Nat) : Bool := t == 33
def mapTT (t : Nat) : Option Nat := if t = 49 then some 33 else none
def homeT (t : Nat) : Bool := false
def ptrTT (t : Nat) : Bool := t == 23 || t == 26
def unsPT (t : Nat) : Bool := t == 103
def bytePT (t : Nat) : Bool := t == 98
def unsToT (T t : Nat) : Option Nat := none
def hookT (g : Nat) : Option Hook := if g = 14 then some .mapCopy else if g = 13 then some .mapKeys else if g = 8 then some (.mapNew 4) else none

noncomputable def cfg : Cfg := { fn := fnT, ti := tiT, glob := glT, cx := cxT, cmp := cmpT, cmpA := cmpAT, mapT := mapTT, home := homeT, ptrT := ptrTT, unsP := unsPT, unsTo := unsToT, hook := hookT, byteT := 5, byteP := bytePT }

theorem hookC (g : Nat) : cfg.hook g = (if g = 14 then some .mapCopy else if g = 13 then some .mapKeys else if g = 8 then some (.mapNew 4) else none) := rfl
theorem byteTC : cfg.byteT = 5 := rfl
theorem bytePC (t : Nat) : cfg.byteP t = (t == 98) := rfl
theorem homeC (t : Nat) : cfg.home t = (false) := rfl
theorem ptrTC (t : Nat) : cfg.ptrT t = (t == 23 || t == 26) := rfl
theorem unsPC (t : Nat) : cfg.unsP t = (t == 103) := rfl
theorem unsToC (T t : Nat) : cfg.unsTo T t = (none) := rfl
theorem cmpC (t : Nat) : cfg.cmp t = (false) := rfl
theorem cmpAC (t : Nat) : cfg.cmpA t = (t == 33) := rfl
theorem mapTC (t : Nat) : cfg.mapT t = (if t = 49 then some 33 else none) := rfl
-- ok: {"cmpA": [33], "mapT": [[49, 33]], "mapK": {"49": 3}, "cmp": [], "home": [], "ptr": [[23, 51], [26, 29]], "uns": [103], "byte": 5, "byteP": [98], "unsTo": [], "hook": {"8": "(.mapNew 4)", "13": ".mapKeys", "14": ".mapCopy"}}
theorem cx3 : cfg.cx 3 = { pol := [], segs := [(12, [3, 1, 1, 1, 1, 9, 1, 1, 1, 1, 1, 1, 1, 2, 1, 1, 1])], live := [(6, [1, 5, 6, 30, 31, 32], [4]), (18, [1, 5, 6, 12, 30, 31, 32, 88, 89, 90], [1, 4, 5, 6, 30, 31, 32])], mix := [] } := rfl
theorem cx4 : cfg.cx 4 = { pol := [], segs := [], live := [(8, [1, 5, 6, 7, 8, 41, 42, 43], [4])], mix := [] } := rfl
theorem cx5 : cfg.cx 5 = { pol := [], segs := [(17, [8, 1, 1]), (18, [6, 1, 1, 1, 6, 1, 1, 1])], live := [(7, [1, 2, 7, 8, 9, 39, 40, 41], [6])], mix := [] } := rfl
theorem cx6 : cfg.cx 6 = { pol := [], segs := [], live := [(6, [0, 1, 2, 7, 8, 42, 43, 44], [0, 1, 2, 7, 8]), (12, [0, 2, 7, 8, 11, 55, 56, 57], [0, 2, 11]), (19, [2, 11, 14, 15, 69, 70, 71], [2, 11, 15])], mix := [] } := rfl
theorem cx7 : cfg.cx 7 = { pol := [], segs := [], live := [], mix := [] } := rfl
theorem cx9 : cfg.cx 9 = { pol := [], segs := [], live := [], mix := [] } := rfl
theorem cx10 : cfg.cx 10 = { pol := [], segs := [(4, [7, 1, 1, 1]), (6, [7, 1, 1, 1]), (9, [11, 1, 1, 1]), (11, [11, 1, 1, 1])], live := [], mix := [(4, [3]), (6, [3]), (9, [5]), (11, [5])] } := rfl
theorem cx11 : cfg.cx 11 = { pol := [], segs := [], live := [], mix := [] } := rfl
theorem cx12 : cfg.cx 12 = { pol := [], segs := [], live := [(2, [1, 10, 11, 12], [4])], mix := [] } := rfl
theorem cx15 : cfg.cx 15 = { pol := [], segs := [(4, [3, 1, 1, 8, 1, 1])], live := [(2, [0, 1, 7, 8], [0, 1, 4])], mix := [] } := rfl
theorem cx16 : cfg.cx 16 = { pol := [], segs := [], live := [], mix := [] } := rfl
theorem cx17 : cfg.cx 17 = { pol := [], segs := [], live := [], mix := [] } := rfl
theorem cx18 : cfg.cx 18 = { pol := [], segs := [], live := [], mix := [] } := rfl
theorem cx19 : cfg.cx 19 = { pol := [], segs := [], live := [], mix := [] } := rfl
theorem cx20 : cfg.cx 20 = { pol := [], segs := [], live := [], mix := [] } := rfl
theorem cx21 : cfg.cx 21 = { pol := [], segs := [], live := [], mix := [] } := rfl
theorem cx22 : cfg.cx 22 = { pol := [], segs := [(8, [13, 1, 1])], live := [], mix := [] } := rfl
theorem cx23 : cfg.cx 23 = { pol := [], segs := [(6, [13, 1, 1])], live := [], mix := [] } := rfl
theorem cx27 : cfg.cx 27 = { pol := [], segs := [(12, [6, 1])], live := [], mix := [] } := rfl
theorem cx28 : cfg.cx 28 = { pol := [], segs := [], live := [], mix := [] } := rfl
theorem cx29 : cfg.cx 29 = { pol := [], segs := [], live := [], mix := [] } := rfl
theorem fn3 : cfg.fn 3 = some Try.f3 := rfl
theorem fn4 : cfg.fn 4 = some Try.f4 := rfl
theorem fn5 : cfg.fn 5 = some Try.f5 := rfl
theorem fn6 : cfg.fn 6 = some Try.f6 := rfl
theorem fn7 : cfg.fn 7 = some Try.f7 := rfl
theorem fn9 : cfg.fn 9 = some Try.f9 := rfl
theorem fn10 : cfg.fn 10 = some Try.f10 := rfl
theorem fn11 : cfg.fn 11 = some Try.f11 := rfl
theorem fn12 : cfg.fn 12 = some Try.f12 := rfl
theorem fn15 : cfg.fn 15 = some Try.f15 := rfl
theorem fn16 : cfg.fn 16 = some Try.f16 := rfl
theorem fn17 : cfg.fn 17 = some Try.f17 := rfl
theorem fn18 : cfg.fn 18 = some Try.f18 := rfl
theorem fn19 : cfg.fn 19 = some Try.f19 := rfl
theorem fn20 : cfg.fn 20 = some Try.f20 := rfl
theorem fn21 : cfg.fn 21 = some Try.f21 := rfl
theorem fn22 : cfg.fn 22 = some Try.f22 := rfl
theorem fn23 : cfg.fn 23 = some Try.f23 := rfl
theorem fn27 : cfg.fn 27 = some Try.f27 := rfl
theorem fn28 : cfg.fn 28 = some Try.f28 := rfl
theorem fn29 : cfg.fn 29 = some Try.f29 := rfl
theorem ti2 : cfg.ti 2 = some { size := 1, bytes := 8, zero := [.lit (.int .i64 0)], kind := .int .i64 } := rfl
theorem ti3 : cfg.ti 3 = some { size := 1, bytes := 8, zero := [.lit (.int .i64 0)], kind := .int .i64 } := rfl
theorem ti4 : cfg.ti 4 = some { size := 1, bytes := 1, zero := [.lit (.bool false)], kind := .bool } := rfl
theorem ti5 : cfg.ti 5 = some { size := 1, bytes := 1, zero := [.lit (.int .u8 0)], kind := .int .u8 } := rfl
theorem ti6 : cfg.ti 6 = some { size := 1, bytes := 1, zero := [.lit (.int .u8 0)], kind := .int .u8 } := rfl
theorem ti7 : cfg.ti 7 = some { size := 4, bytes := 24, zero := [.lit (.int .i64 0), .lit (.int .i64 0), .lit (.bool false), .lit (.int .u8 0)], kind := .struct [(0, 2), (1, 3), (2, 4), (3, 6)] } := rfl
theorem ti8 : cfg.ti 8 = some { size := 4, bytes := 24, zero := [.lit (.int .i64 0), .lit (.int .i64 0), .lit (.bool false), .lit (.int .u8 0)], kind := .struct [(0, 2), (1, 3), (2, 4), (3, 6)] } := rfl
theorem ti9 : cfg.ti 9 = some { size := 1, bytes := 16, zero := [.lit (.string ⟨#[]⟩)], kind := .str } := rfl
theorem ti10 : cfg.ti 10 = some { size := 1, bytes := 16, zero := [.lit (.string ⟨#[]⟩)], kind := .str } := rfl
theorem ti11 : cfg.ti 11 = some { size := 1, bytes := 16, zero := [.lit (.string ⟨#[]⟩)], kind := .str } := rfl
theorem ti12 : cfg.ti 12 = some { size := 1, bytes := 8, zero := [.lit (.int .u64 0)], kind := .int .u64 } := rfl
theorem ti13 : cfg.ti 13 = some { size := 2, bytes := 24, zero := [.lit (.string ⟨#[]⟩), .lit (.int .u64 0)], kind := .struct [(0, 9), (1, 12)] } := rfl
theorem ti14 : cfg.ti 14 = some { size := 2, bytes := 24, zero := [.lit (.string ⟨#[]⟩), .lit (.int .u64 0)], kind := .struct [(0, 9), (1, 12)] } := rfl
theorem ti15 : cfg.ti 15 = some { size := 1, bytes := 8, zero := [.lit (.pointer none)], kind := .other } := rfl
theorem ti16 : cfg.ti 16 = some { size := 1, bytes := 8, zero := [.lit (.pointer none)], kind := .other } := rfl
theorem ti17 : cfg.ti 17 = some { size := 1, bytes := 8, zero := [.lit (.pointer none)], kind := .other } := rfl
theorem ti18 : cfg.ti 18 = some { size := 1, bytes := 8, zero := [.lit (.pointer none)], kind := .struct [(0, 17)] } := rfl
theorem ti19 : cfg.ti 19 = some { size := 1, bytes := 8, zero := [.lit (.pointer none)], kind := .struct [(0, 17)] } := rfl
theorem ti21 : cfg.ti 21 = some { size := 1, bytes := 4, zero := [.lit (.int .i32 0)], kind := .int .i32 } := rfl
theorem ti22 : cfg.ti 22 = some { size := 1, bytes := 24, zero := [.nil], kind := .slice 31 } := rfl
theorem ti23 : cfg.ti 23 = some { size := 1, bytes := 8, zero := [.lit (.pointer none)], kind := .other } := rfl
theorem ti26 : cfg.ti 26 = some { size := 1, bytes := 8, zero := [.lit (.pointer none)], kind := .other } := rfl
theorem ti27 : cfg.ti 27 = some { size := 1, bytes := 24, zero := [.nil], kind := .slice 38 } := rfl
theorem ti28 : cfg.ti 28 = some { size := 1, bytes := 24, zero := [.nil], kind := .struct [(0, 27)] } := rfl
theorem ti29 : cfg.ti 29 = some { size := 1, bytes := 24, zero := [.nil], kind := .struct [(0, 27)] } := rfl
theorem ti30 : cfg.ti 30 = some { size := 3, bytes := 24, zero := [.lit (.int .i64 0), .lit (.int .i64 0), .lit (.int .i64 0)], kind := .struct [(0, 3), (1, 3), (2, 3)] } := rfl
theorem ti31 : cfg.ti 31 = some { size := 3, bytes := 24, zero := [.lit (.int .i64 0), .lit (.int .i64 0), .lit (.int .i64 0)], kind := .struct [(0, 3), (1, 3), (2, 3)] } := rfl
theorem ti33 : cfg.ti 33 = some { size := 4, bytes := 32, zero := [.lit (.int .i64 0), .lit (.int .i64 0), .lit (.int .i64 0), .lit (.int .i64 0)], kind := .array 4 3 } := rfl
theorem ti37 : cfg.ti 37 = some { size := 5, bytes := 40, zero := [.lit (.int .i64 0), .lit (.int .i64 0), .lit (.int .i64 0), .lit (.int .i64 0), .lit (.int .i64 0)], kind := .struct [(0, 3), (1, 33)] } := rfl
theorem ti38 : cfg.ti 38 = some { size := 5, bytes := 40, zero := [.lit (.int .i64 0), .lit (.int .i64 0), .lit (.int .i64 0), .lit (.int .i64 0), .lit (.int .i64 0)], kind := .struct [(0, 3), (1, 33)] } := rfl
theorem ti39 : cfg.ti 39 = some { size := 1, bytes := 24, zero := [.nil], kind := .slice 3 } := rfl
theorem ti45 : cfg.ti 45 = some { size := 1, bytes := 8, zero := [.lit (.int .i64 0)], kind := .int .i64 } := rfl
theorem ti49 : cfg.ti 49 = some { size := 1, bytes := 8, zero := [.lit (.map none)], kind := .other } := rfl
theorem ti50 : cfg.ti 50 = some { size := 1, bytes := 8, zero := [.lit (.map none)], kind := .struct [(0, 49)] } := rfl
theorem ti51 : cfg.ti 51 = some { size := 1, bytes := 8, zero := [.lit (.map none)], kind := .struct [(0, 49)] } := rfl
theorem ti65 : cfg.ti 65 = some { size := 1, bytes := 8, zero := [.lit (.int .u64 0)], kind := .int .u64 } := rfl
theorem ti67 : cfg.ti 67 = some { size := 1, bytes := 8, zero := [.lit (.int .i64 0)], kind := .int .i64 } := rfl
theorem ti76 : cfg.ti 76 = some { size := 1, bytes := 4, zero := [.lit (.int .u32 0)], kind := .int .u32 } := rfl
theorem ti78 : cfg.ti 78 = some { size := 1, bytes := 8, zero := [.lit (.int .u64 0)], kind := .int .u64 } := rfl
theorem ti79 : cfg.ti 79 = some { size := 1, bytes := 8, zero := [.lit (.int .u64 0)], kind := .int .u64 } := rfl
theorem ti83 : cfg.ti 83 = some { size := 1, bytes := 8, zero := [.lit (.pointer none)], kind := .other } := rfl
theorem ti85 : cfg.ti 85 = some { size := 1, bytes := 8, zero := [.lit (.pointer none)], kind := .other } := rfl
theorem ti89 : cfg.ti 89 = some { size := 4, bytes := 40, zero := [.lit (.pointer none), .lit (.pointer none), .lit (.pointer none), .lit (.string ⟨#[]⟩)], kind := .struct [(0, 17), (1, 17), (2, 17), (3, 9)] } := rfl
theorem ti90 : cfg.ti 90 = some { size := 4, bytes := 40, zero := [.lit (.pointer none), .lit (.pointer none), .lit (.pointer none), .lit (.string ⟨#[]⟩)], kind := .struct [(0, 17), (1, 17), (2, 17), (3, 9)] } := rfl
theorem ti91 : cfg.ti 91 = some { size := 0, bytes := 0, zero := [], kind := .array 0 16 } := rfl
theorem ti92 : cfg.ti 92 = some { size := 0, bytes := 0, zero := [], kind := .struct [(0, 91)] } := rfl
theorem ti93 : cfg.ti 93 = some { size := 0, bytes := 0, zero := [], kind := .struct [(0, 91)] } := rfl
theorem ti95 : cfg.ti 95 = some { size := 1, bytes := 1, zero := [.lit (.int .u8 0)], kind := .int .u8 } := rfl
theorem ti96 : cfg.ti 96 = some { size := 1, bytes := 1, zero := [.lit (.int .u8 0)], kind := .int .u8 } := rfl
theorem ti98 : cfg.ti 98 = some { size := 1, bytes := 8, zero := [.lit (.pointer none)], kind := .other } := rfl
theorem ti99 : cfg.ti 99 = some { size := 1, bytes := 4, zero := [.lit (.int .i32 0)], kind := .int .i32 } := rfl
theorem ti100 : cfg.ti 100 = some { size := 1, bytes := 4, zero := [.lit (.int .i32 0)], kind := .int .i32 } := rfl
end Go.Proofs.Ytgppmcpbphgnnaa
