/- The abstract interpreter's table for this seat: bodies, types, tables, policies. Written by a program (vxgen.py). -/
import Derived.Test.YtgppmcpbphgnnaaDoorProg
import Derived.Test.YtgppmcpbphgnnaaDoorVa
set_option linter.unusedSimpArgs false
set_option linter.unusedVariables false
set_option linter.unusedSectionVars false
namespace Go.Proofs.YtgppmcpbphgnnaaDoor
open Go Go.Vx

noncomputable def fnT : Nat → Option Func
  | 3 => some Tryd.f3
  | 4 => some Tryd.f4
  | 5 => some Tryd.f5
  | 6 => some Tryd.f6
  | 7 => some Tryd.f7
  | 8 => some Tryd.f8
  | 9 => some Tryd.f9
  | 10 => some Tryd.f10
  | 11 => some Tryd.f11
  | 12 => some Tryd.f12
  | 13 => some Tryd.f13
  | 14 => some Tryd.f14
  | 15 => some Tryd.f15
  | 16 => some Tryd.f16
  | 17 => some Tryd.f17
  | 18 => some Tryd.f18
  | 19 => some Tryd.f19
  | 20 => some Tryd.f20
  | 21 => some Tryd.f21
  | 22 => some Tryd.f22
  | 23 => some Tryd.f23
  | 24 => some Tryd.f24
  | 25 => some Tryd.f25
  | 26 => some Tryd.f26
  | 27 => some Tryd.f27
  | 28 => some Tryd.f28
  | 29 => some Tryd.f29
  | 30 => some Tryd.f30
  | 31 => some Tryd.f31
  | 32 => some Tryd.f32
  | 33 => some Tryd.f33
  | 34 => some Tryd.f34
  | 35 => some Tryd.f35
  | 36 => some Tryd.f36
  | 37 => some Tryd.f37
  | 38 => some Tryd.f38
  | 39 => some Tryd.f39
  | 40 => some Tryd.f40
  | 41 => some Tryd.f41
  | 42 => some Tryd.f42
  | 43 => some Tryd.f43
  | 44 => some Tryd.f44
  | 45 => some Tryd.f45
  | 46 => some Tryd.f46
  | 47 => some Tryd.f47
  | 48 => some Tryd.f48
  | 49 => some Tryd.f49
  | 50 => some Tryd.f50
  | 51 => some Tryd.f51
  | 52 => some Tryd.f52
  | 53 => some Tryd.f53
  | 54 => some Tryd.f54
  | 55 => some Tryd.f55
  | 56 => some Tryd.f56
  | 57 => some Tryd.f57
  | 58 => some Tryd.f58
  | 59 => some Tryd.f59
  | 60 => some Tryd.f60
  | 61 => some Tryd.f61
  | 62 => some Tryd.f62
  | 63 => some Tryd.f63
  | 64 => some Tryd.f64
  | 65 => some Tryd.f65
  | 66 => some Tryd.f66
  | 67 => some Tryd.f67
  | 68 => some Tryd.f68
  | 69 => some Tryd.f69
  | 70 => some Tryd.f70
  | 71 => some Tryd.f71
  | 72 => some Tryd.f72
  | 73 => some Tryd.f73
  | 74 => some Tryd.f74
  | 75 => some Tryd.f75
  | 76 => some Tryd.f76
  | 77 => some Tryd.f77
  | 78 => some Tryd.f78
  | 79 => some Tryd.f79
  | 80 => some Tryd.f80
  | 81 => some Tryd.f81
  | 82 => some Tryd.f82
  | 83 => some Tryd.f83
  | 84 => some Tryd.f84
  | 85 => some Tryd.f85
  | 86 => some Tryd.f86
  | 96 => some Tryd.f96
  | 97 => some Tryd.f97
  | 99 => some Tryd.f99
  | _ => none

def tiT : Nat → Option TI
  | 2 => some { size := 1, bytes := 8, zero := [.lit (.int .i64 0)], kind := .int .i64 }
  | 3 => some { size := 1, bytes := 8, zero := [.lit (.int .i64 0)], kind := .int .i64 }
  | 4 => some { size := 1, bytes := 1, zero := [.lit (.bool false)], kind := .bool }
  | 5 => some { size := 1, bytes := 1, zero := [.lit (.int .u8 0)], kind := .int .u8 }
  | 6 => some { size := 1, bytes := 1, zero := [.lit (.int .u8 0)], kind := .int .u8 }
  | 7 => some { size := 4, bytes := 24, zero := [.lit (.int .i64 0), .lit (.int .i64 0), .lit (.bool false), .lit (.int .u8 0)], kind := .struct [(0, 2), (1, 3), (2, 4), (3, 6)] }
  | 8 => some { size := 4, bytes := 24, zero := [.lit (.int .i64 0), .lit (.int .i64 0), .lit (.bool false), .lit (.int .u8 0)], kind := .struct [(0, 2), (1, 3), (2, 4), (3, 6)] }
  | 9 => some { size := 1, bytes := 16, zero := [.lit (.string ⟨#[]⟩)], kind := .str }
  | 10 => some { size := 1, bytes := 16, zero := [.lit (.string ⟨#[]⟩)], kind := .str }
  | 11 => some { size := 1, bytes := 16, zero := [.lit (.string ⟨#[]⟩)], kind := .str }
  | 12 => some { size := 1, bytes := 8, zero := [.lit (.int .u64 0)], kind := .int .u64 }
  | 13 => some { size := 2, bytes := 24, zero := [.lit (.string ⟨#[]⟩), .lit (.int .u64 0)], kind := .struct [(0, 9), (1, 12)] }
  | 14 => some { size := 2, bytes := 24, zero := [.lit (.string ⟨#[]⟩), .lit (.int .u64 0)], kind := .struct [(0, 9), (1, 12)] }
  | 15 => some { size := 1, bytes := 8, zero := [.lit (.pointer none)], kind := .other }
  | 16 => some { size := 1, bytes := 8, zero := [.lit (.pointer none)], kind := .other }
  | 17 => some { size := 1, bytes := 8, zero := [.lit (.pointer none)], kind := .other }
  | 18 => some { size := 1, bytes := 8, zero := [.lit (.pointer none)], kind := .struct [(0, 17)] }
  | 19 => some { size := 1, bytes := 8, zero := [.lit (.pointer none)], kind := .struct [(0, 17)] }
  | 21 => some { size := 1, bytes := 4, zero := [.lit (.int .i32 0)], kind := .int .i32 }
  | 22 => some { size := 1, bytes := 24, zero := [.nil], kind := .slice 25 }
  | 23 => some { size := 1, bytes := 24, zero := [.nil], kind := .slice 71 }
  | 24 => some { size := 5, bytes := 72, zero := [.lit (.int .i64 0), .lit (.int .i64 0), .lit (.int .i64 0), .nil, .nil], kind := .struct [(0, 3), (1, 3), (2, 3), (3, 22), (4, 23)] }
  | 25 => some { size := 5, bytes := 72, zero := [.lit (.int .i64 0), .lit (.int .i64 0), .lit (.int .i64 0), .nil, .nil], kind := .struct [(0, 3), (1, 3), (2, 3), (3, 22), (4, 23)] }
  | 27 => some { size := 1, bytes := 8, zero := [.lit (.pointer none)], kind := .other }
  | 28 => some { size := 1, bytes := 8, zero := [.lit (.int .i64 0)], kind := .struct [(0, 3)] }
  | 29 => some { size := 1, bytes := 8, zero := [.lit (.int .i64 0)], kind := .struct [(0, 3)] }
  | 31 => some { size := 1, bytes := 24, zero := [.nil], kind := .slice 34 }
  | 32 => some { size := 1, bytes := 24, zero := [.nil], kind := .slice 72 }
  | 33 => some { size := 5, bytes := 72, zero := [.lit (.int .i64 0), .lit (.int .i64 0), .lit (.int .i64 0), .nil, .nil], kind := .struct [(0, 3), (1, 3), (2, 3), (3, 31), (4, 32)] }
  | 34 => some { size := 5, bytes := 72, zero := [.lit (.int .i64 0), .lit (.int .i64 0), .lit (.int .i64 0), .nil, .nil], kind := .struct [(0, 3), (1, 3), (2, 3), (3, 31), (4, 32)] }
  | 36 => some { size := 1, bytes := 8, zero := [.lit (.int .i64 0)], kind := .int .i64 }
  | 46 => some { size := 1, bytes := 24, zero := [.nil], kind := .slice 48 }
  | 47 => some { size := 3, bytes := 40, zero := [.lit (.int .i64 0), .lit (.int .i64 0), .nil], kind := .struct [(0, 3), (1, 3), (2, 46)] }
  | 48 => some { size := 3, bytes := 40, zero := [.lit (.int .i64 0), .lit (.int .i64 0), .nil], kind := .struct [(0, 3), (1, 3), (2, 46)] }
  | 50 => some { size := 1, bytes := 8, zero := [.lit (.pointer none)], kind := .other }
  | 51 => some { size := 1, bytes := 8, zero := [.lit (.int .i64 0)], kind := .struct [(0, 3)] }
  | 66 => some { size := 1, bytes := 24, zero := [.nil], kind := .slice 3 }
  | 70 => some { size := 3, bytes := 24, zero := [.lit (.int .i64 0), .lit (.int .i64 0), .lit (.int .i64 0)], kind := .struct [(0, 3), (1, 3), (2, 3)] }
  | 71 => some { size := 3, bytes := 24, zero := [.lit (.int .i64 0), .lit (.int .i64 0), .lit (.int .i64 0)], kind := .struct [(0, 3), (1, 3), (2, 3)] }
  | 72 => some { size := 3, bytes := 24, zero := [.lit (.int .i64 0), .lit (.int .i64 0), .lit (.int .i64 0)], kind := .struct [(0, 3), (1, 3), (2, 3)] }
  | 82 => some { size := 1, bytes := 8, zero := [.lit (.pointer none)], kind := .other }
  | 83 => some { size := 1, bytes := 24, zero := [.nil], kind := .slice 5 }
  | 84 => some { size := 2, bytes := 32, zero := [.lit (.pointer none), .nil], kind := .struct [(0, 82), (1, 83)] }
  | 85 => some { size := 2, bytes := 32, zero := [.lit (.pointer none), .nil], kind := .struct [(0, 82), (1, 83)] }
  | 92 => some { size := 4, bytes := 48, zero := [.lit (.int .i64 0), .lit (.int .i64 0), .nil, .lit (.int .i64 0)], kind := .struct [(0, 48), (3, 3)] }
  | 93 => some { size := 4, bytes := 48, zero := [.lit (.int .i64 0), .lit (.int .i64 0), .nil, .lit (.int .i64 0)], kind := .struct [(0, 48), (3, 3)] }
  | 99 => some { size := 11, bytes := 176, zero := [.lit (.string ⟨#[]⟩), .lit (.string ⟨#[]⟩), .lit (.string ⟨#[]⟩), .lit (.string ⟨#[]⟩), .lit (.string ⟨#[]⟩), .lit (.string ⟨#[]⟩), .lit (.string ⟨#[]⟩), .lit (.string ⟨#[]⟩), .lit (.string ⟨#[]⟩), .lit (.string ⟨#[]⟩), .lit (.string ⟨#[]⟩)], kind := .array 11 9 }
  | 100 => some { size := 1, bytes := 24, zero := [.nil], kind := .slice 9 }
  | 101 => some { size := 4, bytes := 40, zero := [.lit (.string ⟨#[]⟩), .lit (.int .i64 0), .lit (.int .i64 0), .lit (.int .i64 0)], kind := .struct [(0, 9), (1, 3), (2, 3), (3, 3)] }
  | 102 => some { size := 4, bytes := 40, zero := [.lit (.string ⟨#[]⟩), .lit (.int .i64 0), .lit (.int .i64 0), .lit (.int .i64 0)], kind := .struct [(0, 9), (1, 3), (2, 3), (3, 3)] }
  | 103 => some { size := 60, bytes := 600, zero := [.lit (.string ⟨#[]⟩), .lit (.int .i64 0), .lit (.int .i64 0), .lit (.int .i64 0), .lit (.string ⟨#[]⟩), .lit (.int .i64 0), .lit (.int .i64 0), .lit (.int .i64 0), .lit (.string ⟨#[]⟩), .lit (.int .i64 0), .lit (.int .i64 0), .lit (.int .i64 0), .lit (.string ⟨#[]⟩), .lit (.int .i64 0), .lit (.int .i64 0), .lit (.int .i64 0), .lit (.string ⟨#[]⟩), .lit (.int .i64 0), .lit (.int .i64 0), .lit (.int .i64 0), .lit (.string ⟨#[]⟩), .lit (.int .i64 0), .lit (.int .i64 0), .lit (.int .i64 0), .lit (.string ⟨#[]⟩), .lit (.int .i64 0), .lit (.int .i64 0), .lit (.int .i64 0), .lit (.string ⟨#[]⟩), .lit (.int .i64 0), .lit (.int .i64 0), .lit (.int .i64 0), .lit (.string ⟨#[]⟩), .lit (.int .i64 0), .lit (.int .i64 0), .lit (.int .i64 0), .lit (.string ⟨#[]⟩), .lit (.int .i64 0), .lit (.int .i64 0), .lit (.int .i64 0), .lit (.string ⟨#[]⟩), .lit (.int .i64 0), .lit (.int .i64 0), .lit (.int .i64 0), .lit (.string ⟨#[]⟩), .lit (.int .i64 0), .lit (.int .i64 0), .lit (.int .i64 0), .lit (.string ⟨#[]⟩), .lit (.int .i64 0), .lit (.int .i64 0), .lit (.int .i64 0), .lit (.string ⟨#[]⟩), .lit (.int .i64 0), .lit (.int .i64 0), .lit (.int .i64 0), .lit (.string ⟨#[]⟩), .lit (.int .i64 0), .lit (.int .i64 0), .lit (.int .i64 0)], kind := .array 15 102 }
  | 110 => some { size := 1, bytes := 8, zero := [.lit (.pointer none)], kind := .other }
  | 116 => some { size := 1, bytes := 24, zero := [.nil], kind := .slice 102 }
  | 125 => some { size := 1, bytes := 8, zero := [.lit (.int .u64 0)], kind := .int .u64 }
  | 128 => some { size := 1, bytes := 8, zero := [.lit (.int .i64 0)], kind := .int .i64 }
  | 136 => some { size := 1, bytes := 4, zero := [.lit (.int .u32 0)], kind := .int .u32 }
  | 138 => some { size := 1, bytes := 8, zero := [.lit (.int .u64 0)], kind := .int .u64 }
  | 142 => some { size := 1, bytes := 8, zero := [.lit (.int .u64 0)], kind := .int .u64 }
  | 146 => some { size := 1, bytes := 8, zero := [.lit (.pointer none)], kind := .other }
  | 148 => some { size := 1, bytes := 8, zero := [.lit (.pointer none)], kind := .other }
  | 150 => some { size := 4, bytes := 40, zero := [.lit (.pointer none), .lit (.pointer none), .lit (.pointer none), .lit (.string ⟨#[]⟩)], kind := .struct [(0, 17), (1, 17), (2, 17), (3, 9)] }
  | 151 => some { size := 4, bytes := 40, zero := [.lit (.pointer none), .lit (.pointer none), .lit (.pointer none), .lit (.string ⟨#[]⟩)], kind := .struct [(0, 17), (1, 17), (2, 17), (3, 9)] }
  | 152 => some { size := 0, bytes := 0, zero := [], kind := .array 0 16 }
  | 153 => some { size := 0, bytes := 0, zero := [], kind := .struct [(0, 152)] }
  | 154 => some { size := 0, bytes := 0, zero := [], kind := .struct [(0, 152)] }
  | 155 => some { size := 1, bytes := 1, zero := [.lit (.int .u8 0)], kind := .int .u8 }
  | 156 => some { size := 1, bytes := 1, zero := [.lit (.int .u8 0)], kind := .int .u8 }
  | 158 => some { size := 1, bytes := 4, zero := [.lit (.int .i32 0)], kind := .int .i32 }
  | 159 => some { size := 1, bytes := 4, zero := [.lit (.int .i32 0)], kind := .int .i32 }
  | _ => none

def cxT : Nat → Cx
  | 3 => { pol := [], segs := [(6, [2, 1, 1, 2, 1, 1, 1, 3, 1, 1, 1, 1, 1, 1, 1])], live := [] }
  | 4 => { pol := [], segs := [(3, [6, 1, 1, 1, 1, 2, 1, 1, 1, 1, 1, 1])], live := [] }
  | 9 => { pol := [], segs := [(21, [5, 1, 1, 1, 3, 1, 1, 1, 1, 1, 1, 1])], live := [(5, [2, 3, 5, 25, 26, 27], [2, 3, 4, 5]), (11, [2, 3, 5, 8], [2, 3, 4]), (15, [2, 3, 5, 8, 9, 54, 55, 56], [2, 3, 5, 8, 9])] }
  | 10 => { pol := [], segs := [], live := [(5, [1, 2, 39, 40, 41], [6])] }
  | 12 => { pol := [], segs := [(5, [5, 1, 1, 1])], live := [(3, [1, 2, 3, 16, 17, 18], [1, 2, 3]), (8, [2, 3, 31, 32, 33], [2, 3])] }
  | 16 => { pol := [], segs := [], live := [(3, [3, 7, 8, 9], [3])] }
  | 18 => { pol := [], segs := [(6, [10, 1]), (12, [10, 1, 1])], live := [(4, [2, 3, 46, 47], [2, 3, 4]), (10, [2, 3, 64, 65], [4])] }
  | 19 => { pol := [], segs := [], live := [(5, [1, 2, 33, 34, 35], [6])] }
  | 27 => { pol := [], segs := [(6, [10, 1, 1])], live := [(4, [2, 3, 29, 30], [4])] }
  | 28 => { pol := [], segs := [], live := [(5, [3, 15, 16, 17], [3])] }
  | 29 => { pol := [], segs := [], live := [(4, [1, 17, 18, 19], [4])] }
  | 31 => { pol := [], segs := [], live := [(3, [3, 7, 8, 9], [3])] }
  | 32 => { pol := [], segs := [], live := [(3, [3, 7, 8, 9], [3])] }
  | 35 => { pol := [], segs := [(24, [16, 1, 1])], live := [(16, [1, 3, 54, 55, 56], [1, 3]), (22, [3, 70, 71, 72], [3])] }
  | 36 => { pol := [], segs := [], live := [(3, [3, 8, 9, 10], [3])] }
  | 37 => { pol := [], segs := [], live := [(4, [1, 26, 27, 28], [1, 2]), (10, [47, 48, 49], [2])] }
  | 38 => { pol := [], segs := [(24, [15, 1, 1, 1])], live := [(16, [1, 3, 56, 57, 58], [1, 3]), (22, [3, 72, 73, 74], [3])] }
  | 39 => { pol := [], segs := [], live := [(3, [1, 10, 11, 12], [])] }
  | 41 => { pol := [], segs := [(6, [8, 1])], live := [(4, [0, 1, 12, 13], [4])] }
  | 42 => { pol := [], segs := [], live := [(4, [1, 2, 15, 16, 17], [6])] }
  | 46 => { pol := [], segs := [], live := [(3, [3, 15, 16, 17], [2])] }
  | 48 => { pol := [], segs := [], live := [(4, [0, 17, 18, 19], [0])] }
  | 50 => { pol := [], segs := [(1, [10, 1, 1])], live := [] }
  | 51 => { pol := [], segs := [], live := [(7, [3, 24, 25, 26], [3])] }
  | 52 => { pol := [], segs := [], live := [(11, [1, 4, 10, 12, 50, 51], [4, 5, 6, 10, 12])] }
  | 53 => { pol := [], segs := [], live := [(11, [0, 1, 2, 6, 8], [6]), (17, [0, 2, 6, 8, 9, 10, 11], [0, 6, 9, 10])] }
  | 55 => { pol := [], segs := [(6, [9, 1]), (11, [9, 1])], live := [(4, [0, 3], [0, 2]), (9, [0, 3, 4, 5], [0, 3])] }
  | 56 => { pol := [], segs := [], live := [(4, [1, 2, 15, 16, 17], [6])] }
  | 57 => { pol := [], segs := [], live := [(3, [3, 7, 8, 9], [3])] }
  | 58 => { pol := [], segs := [], live := [(3, [1, 27, 28, 29], [])] }
  | 62 => { pol := [], segs := [(5, [1, 1, 1, 1, 1, 1, 1, 1, 1, 1, 1, 1, 1, 1, 8, 1, 1, 1])], live := [] }
  | 64 => { pol := [], segs := [(1, [4, 1, 1])], live := [] }
  | 65 => { pol := [], segs := [], live := [(3, [3, 8, 9, 10], [3])] }
  | 66 => { pol := [], segs := [(1, [1, 1, 1, 1, 1, 1, 1, 1, 1, 6, 1, 1, 1, 1, 1, 1, 1])], live := [(6, [56, 57, 58], [2])] }
  | 70 => { pol := [], segs := [], live := [(2, [0, 3], [0, 3])] }
  | 73 => { pol := [], segs := [(4, [7, 1])], live := [(2, [0, 4], [0, 4])] }
  | 74 => { pol := [], segs := [], live := [(2, [0, 1, 7, 8], [4])] }
  | 76 => { pol := [], segs := [], live := [(5, [4, 25], [2, 3, 4])] }
  | 78 => { pol := [], segs := [], live := [(3, [0, 1, 4, 5, 6], [1, 4, 5, 6])] }
  | 80 => { pol := [], segs := [(17, [1, 1, 1, 9, 1, 1, 1])], live := [(2, [0, 1, 2, 3, 8, 9], [])] }
  | 84 => { pol := [], segs := [], live := [(2, [0, 1, 7, 8], [4])] }
  | _ => { pol := [], segs := [], live := [] }

def glT : Nat → Option (List D)
  | 1 => some (.lit (.string ⟨#[]⟩) :: .lit (.int .i64 0) :: .lit (.int .i64 0) :: .lit (.int .i64 0) :: .lit (.string ⟨#[]⟩) :: .lit (.int .i64 0) :: .lit (.int .i64 0) :: .lit (.int .i64 0) :: .lit (.string ⟨#[]⟩) :: .lit (.int .i64 0) :: .lit (.int .i64 0) :: .lit (.int .i64 0) :: .lit (.string ⟨#[110, 101, 103]⟩) :: .lit (.int .i64 1) :: .lit (.int .i64 1) :: .lit (.int .i64 1) :: .lit (.string ⟨#[110, 111, 116]⟩) :: .lit (.int .i64 1) :: .lit (.int .i64 2) :: .lit (.int .i64 2) :: .lit (.string ⟨#[97, 100, 100]⟩) :: .lit (.int .i64 2) :: .lit (.int .i64 1) :: .lit (.int .i64 1) :: .lit (.string ⟨#[115, 117, 98]⟩) :: .lit (.int .i64 2) :: .lit (.int .i64 1) :: .lit (.int .i64 1) :: .lit (.string ⟨#[109, 117, 108]⟩) :: .lit (.int .i64 2) :: .lit (.int .i64 1) :: .lit (.int .i64 1) :: .lit (.string ⟨#[100, 105, 118]⟩) :: .lit (.int .i64 2) :: .lit (.int .i64 1) :: .lit (.int .i64 1) :: .lit (.string ⟨#[109, 111, 100]⟩) :: .lit (.int .i64 2) :: .lit (.int .i64 1) :: .lit (.int .i64 1) :: .lit (.string ⟨#[101, 113]⟩) :: .lit (.int .i64 2) :: .lit (.int .i64 1) :: .lit (.int .i64 2) :: .lit (.string ⟨#[108, 116]⟩) :: .lit (.int .i64 2) :: .lit (.int .i64 1) :: .lit (.int .i64 2) :: .lit (.string ⟨#[108, 101]⟩) :: .lit (.int .i64 2) :: .lit (.int .i64 1) :: .lit (.int .i64 2) :: .lit (.string ⟨#[97, 110, 100]⟩) :: .lit (.int .i64 2) :: .lit (.int .i64 2) :: .lit (.int .i64 2) :: .lit (.string ⟨#[111, 114]⟩) :: .lit (.int .i64 2) :: .lit (.int .i64 2) :: .lit (.int .i64 2) :: [])
  | _ => none

def cmpT (t : Nat) : Bool := false
def homeT (t : Nat) : Bool := t == 85
def ptrTT (t : Nat) : Bool := t == 82
def unsPT (t : Nat) : Bool := t == 139
def bytePT (t : Nat) : Bool := t == 110
def unsToT (T t : Nat) : Option Nat := if T = 85 ∧ t = 82 then some 2 else none
def hookT (g : Nat) : Option Hook := if g = 98 then some .same else if g = 55 then some .compact else if g = 54 then some .sort else none

noncomputable def cfg : Cfg := { fn := fnT, ti := tiT, glob := glT, cx := cxT, cmp := cmpT, home := homeT, ptrT := ptrTT, unsP := unsPT, unsTo := unsToT, hook := hookT, byteT := 5, byteP := bytePT }

theorem hookC (g : Nat) : cfg.hook g = (if g = 98 then some .same else if g = 55 then some .compact else if g = 54 then some .sort else none) := rfl
theorem byteTC : cfg.byteT = 5 := rfl
theorem bytePC (t : Nat) : cfg.byteP t = (t == 110) := rfl
theorem homeC (t : Nat) : cfg.home t = (t == 85) := rfl
theorem ptrTC (t : Nat) : cfg.ptrT t = (t == 82) := rfl
theorem unsPC (t : Nat) : cfg.unsP t = (t == 139) := rfl
theorem unsToC (T t : Nat) : cfg.unsTo T t = (if T = 85 ∧ t = 82 then some 2 else none) := rfl
theorem cmpC (t : Nat) : cfg.cmp t = (false) := rfl
-- ok: {"cmp": [], "home": [85], "ptr": [[82, 85]], "uns": [139], "byte": 5, "byteP": [110], "unsTo": [[85, 82, 85, 2]], "hook": {"54": ".sort", "55": ".compact", "98": ".same"}}
theorem cx3 : cfg.cx 3 = { pol := [], segs := [(6, [2, 1, 1, 2, 1, 1, 1, 3, 1, 1, 1, 1, 1, 1, 1])], live := [] } := rfl
theorem cx4 : cfg.cx 4 = { pol := [], segs := [(3, [6, 1, 1, 1, 1, 2, 1, 1, 1, 1, 1, 1])], live := [] } := rfl
theorem cx5 : cfg.cx 5 = { pol := [], segs := [], live := [] } := rfl
theorem cx6 : cfg.cx 6 = { pol := [], segs := [], live := [] } := rfl
theorem cx7 : cfg.cx 7 = { pol := [], segs := [], live := [] } := rfl
theorem cx8 : cfg.cx 8 = { pol := [], segs := [], live := [] } := rfl
theorem cx9 : cfg.cx 9 = { pol := [], segs := [(21, [5, 1, 1, 1, 3, 1, 1, 1, 1, 1, 1, 1])], live := [(5, [2, 3, 5, 25, 26, 27], [2, 3, 4, 5]), (11, [2, 3, 5, 8], [2, 3, 4]), (15, [2, 3, 5, 8, 9, 54, 55, 56], [2, 3, 5, 8, 9])] } := rfl
theorem cx10 : cfg.cx 10 = { pol := [], segs := [], live := [(5, [1, 2, 39, 40, 41], [6])] } := rfl
theorem cx11 : cfg.cx 11 = { pol := [], segs := [], live := [] } := rfl
theorem cx12 : cfg.cx 12 = { pol := [], segs := [(5, [5, 1, 1, 1])], live := [(3, [1, 2, 3, 16, 17, 18], [1, 2, 3]), (8, [2, 3, 31, 32, 33], [2, 3])] } := rfl
theorem cx13 : cfg.cx 13 = { pol := [], segs := [], live := [] } := rfl
theorem cx14 : cfg.cx 14 = { pol := [], segs := [], live := [] } := rfl
theorem cx15 : cfg.cx 15 = { pol := [], segs := [], live := [] } := rfl
theorem cx16 : cfg.cx 16 = { pol := [], segs := [], live := [(3, [3, 7, 8, 9], [3])] } := rfl
theorem cx17 : cfg.cx 17 = { pol := [], segs := [], live := [] } := rfl
theorem cx18 : cfg.cx 18 = { pol := [], segs := [(6, [10, 1]), (12, [10, 1, 1])], live := [(4, [2, 3, 46, 47], [2, 3, 4]), (10, [2, 3, 64, 65], [4])] } := rfl
theorem cx19 : cfg.cx 19 = { pol := [], segs := [], live := [(5, [1, 2, 33, 34, 35], [6])] } := rfl
theorem cx20 : cfg.cx 20 = { pol := [], segs := [], live := [] } := rfl
theorem cx21 : cfg.cx 21 = { pol := [], segs := [], live := [] } := rfl
theorem cx22 : cfg.cx 22 = { pol := [], segs := [], live := [] } := rfl
theorem cx23 : cfg.cx 23 = { pol := [], segs := [], live := [] } := rfl
theorem cx24 : cfg.cx 24 = { pol := [], segs := [], live := [] } := rfl
theorem cx25 : cfg.cx 25 = { pol := [], segs := [], live := [] } := rfl
theorem cx26 : cfg.cx 26 = { pol := [], segs := [], live := [] } := rfl
theorem cx27 : cfg.cx 27 = { pol := [], segs := [(6, [10, 1, 1])], live := [(4, [2, 3, 29, 30], [4])] } := rfl
theorem cx28 : cfg.cx 28 = { pol := [], segs := [], live := [(5, [3, 15, 16, 17], [3])] } := rfl
theorem cx29 : cfg.cx 29 = { pol := [], segs := [], live := [(4, [1, 17, 18, 19], [4])] } := rfl
theorem cx30 : cfg.cx 30 = { pol := [], segs := [], live := [] } := rfl
theorem cx31 : cfg.cx 31 = { pol := [], segs := [], live := [(3, [3, 7, 8, 9], [3])] } := rfl
theorem cx32 : cfg.cx 32 = { pol := [], segs := [], live := [(3, [3, 7, 8, 9], [3])] } := rfl
theorem cx33 : cfg.cx 33 = { pol := [], segs := [], live := [] } := rfl
theorem cx34 : cfg.cx 34 = { pol := [], segs := [], live := [] } := rfl
theorem cx35 : cfg.cx 35 = { pol := [], segs := [(24, [16, 1, 1])], live := [(16, [1, 3, 54, 55, 56], [1, 3]), (22, [3, 70, 71, 72], [3])] } := rfl
theorem cx36 : cfg.cx 36 = { pol := [], segs := [], live := [(3, [3, 8, 9, 10], [3])] } := rfl
theorem cx37 : cfg.cx 37 = { pol := [], segs := [], live := [(4, [1, 26, 27, 28], [1, 2]), (10, [47, 48, 49], [2])] } := rfl
theorem cx38 : cfg.cx 38 = { pol := [], segs := [(24, [15, 1, 1, 1])], live := [(16, [1, 3, 56, 57, 58], [1, 3]), (22, [3, 72, 73, 74], [3])] } := rfl
theorem cx39 : cfg.cx 39 = { pol := [], segs := [], live := [(3, [1, 10, 11, 12], [])] } := rfl
theorem cx40 : cfg.cx 40 = { pol := [], segs := [], live := [] } := rfl
theorem cx41 : cfg.cx 41 = { pol := [], segs := [(6, [8, 1])], live := [(4, [0, 1, 12, 13], [4])] } := rfl
theorem cx42 : cfg.cx 42 = { pol := [], segs := [], live := [(4, [1, 2, 15, 16, 17], [6])] } := rfl
theorem cx43 : cfg.cx 43 = { pol := [], segs := [], live := [] } := rfl
theorem cx44 : cfg.cx 44 = { pol := [], segs := [], live := [] } := rfl
theorem cx45 : cfg.cx 45 = { pol := [], segs := [], live := [] } := rfl
theorem cx46 : cfg.cx 46 = { pol := [], segs := [], live := [(3, [3, 15, 16, 17], [2])] } := rfl
theorem cx47 : cfg.cx 47 = { pol := [], segs := [], live := [] } := rfl
theorem cx48 : cfg.cx 48 = { pol := [], segs := [], live := [(4, [0, 17, 18, 19], [0])] } := rfl
theorem cx49 : cfg.cx 49 = { pol := [], segs := [], live := [] } := rfl
theorem cx50 : cfg.cx 50 = { pol := [], segs := [(1, [10, 1, 1])], live := [] } := rfl
theorem cx51 : cfg.cx 51 = { pol := [], segs := [], live := [(7, [3, 24, 25, 26], [3])] } := rfl
theorem cx52 : cfg.cx 52 = { pol := [], segs := [], live := [(11, [1, 4, 10, 12, 50, 51], [4, 5, 6, 10, 12])] } := rfl
theorem cx53 : cfg.cx 53 = { pol := [], segs := [], live := [(11, [0, 1, 2, 6, 8], [6]), (17, [0, 2, 6, 8, 9, 10, 11], [0, 6, 9, 10])] } := rfl
theorem cx54 : cfg.cx 54 = { pol := [], segs := [], live := [] } := rfl
theorem cx55 : cfg.cx 55 = { pol := [], segs := [(6, [9, 1]), (11, [9, 1])], live := [(4, [0, 3], [0, 2]), (9, [0, 3, 4, 5], [0, 3])] } := rfl
theorem cx56 : cfg.cx 56 = { pol := [], segs := [], live := [(4, [1, 2, 15, 16, 17], [6])] } := rfl
theorem cx57 : cfg.cx 57 = { pol := [], segs := [], live := [(3, [3, 7, 8, 9], [3])] } := rfl
theorem cx58 : cfg.cx 58 = { pol := [], segs := [], live := [(3, [1, 27, 28, 29], [])] } := rfl
theorem cx59 : cfg.cx 59 = { pol := [], segs := [], live := [] } := rfl
theorem cx60 : cfg.cx 60 = { pol := [], segs := [], live := [] } := rfl
theorem cx61 : cfg.cx 61 = { pol := [], segs := [], live := [] } := rfl
theorem cx62 : cfg.cx 62 = { pol := [], segs := [(5, [1, 1, 1, 1, 1, 1, 1, 1, 1, 1, 1, 1, 1, 1, 8, 1, 1, 1])], live := [] } := rfl
theorem cx63 : cfg.cx 63 = { pol := [], segs := [], live := [] } := rfl
theorem cx64 : cfg.cx 64 = { pol := [], segs := [(1, [4, 1, 1])], live := [] } := rfl
theorem cx65 : cfg.cx 65 = { pol := [], segs := [], live := [(3, [3, 8, 9, 10], [3])] } := rfl
theorem cx66 : cfg.cx 66 = { pol := [], segs := [(1, [1, 1, 1, 1, 1, 1, 1, 1, 1, 6, 1, 1, 1, 1, 1, 1, 1])], live := [(6, [56, 57, 58], [2])] } := rfl
theorem cx67 : cfg.cx 67 = { pol := [], segs := [], live := [] } := rfl
theorem cx68 : cfg.cx 68 = { pol := [], segs := [], live := [] } := rfl
theorem cx69 : cfg.cx 69 = { pol := [], segs := [], live := [] } := rfl
theorem cx70 : cfg.cx 70 = { pol := [], segs := [], live := [(2, [0, 3], [0, 3])] } := rfl
theorem cx71 : cfg.cx 71 = { pol := [], segs := [], live := [] } := rfl
theorem cx72 : cfg.cx 72 = { pol := [], segs := [], live := [] } := rfl
theorem cx73 : cfg.cx 73 = { pol := [], segs := [(4, [7, 1])], live := [(2, [0, 4], [0, 4])] } := rfl
theorem cx74 : cfg.cx 74 = { pol := [], segs := [], live := [(2, [0, 1, 7, 8], [4])] } := rfl
theorem cx75 : cfg.cx 75 = { pol := [], segs := [], live := [] } := rfl
theorem cx76 : cfg.cx 76 = { pol := [], segs := [], live := [(5, [4, 25], [2, 3, 4])] } := rfl
theorem cx77 : cfg.cx 77 = { pol := [], segs := [], live := [] } := rfl
theorem cx78 : cfg.cx 78 = { pol := [], segs := [], live := [(3, [0, 1, 4, 5, 6], [1, 4, 5, 6])] } := rfl
theorem cx79 : cfg.cx 79 = { pol := [], segs := [], live := [] } := rfl
theorem cx80 : cfg.cx 80 = { pol := [], segs := [(17, [1, 1, 1, 9, 1, 1, 1])], live := [(2, [0, 1, 2, 3, 8, 9], [])] } := rfl
theorem cx81 : cfg.cx 81 = { pol := [], segs := [], live := [] } := rfl
theorem cx82 : cfg.cx 82 = { pol := [], segs := [], live := [] } := rfl
theorem cx83 : cfg.cx 83 = { pol := [], segs := [], live := [] } := rfl
theorem cx84 : cfg.cx 84 = { pol := [], segs := [], live := [(2, [0, 1, 7, 8], [4])] } := rfl
theorem cx85 : cfg.cx 85 = { pol := [], segs := [], live := [] } := rfl
theorem cx86 : cfg.cx 86 = { pol := [], segs := [], live := [] } := rfl
theorem cx96 : cfg.cx 96 = { pol := [], segs := [], live := [] } := rfl
theorem cx97 : cfg.cx 97 = { pol := [], segs := [], live := [] } := rfl
theorem cx99 : cfg.cx 99 = { pol := [], segs := [], live := [] } := rfl
theorem fn3 : cfg.fn 3 = some Tryd.f3 := rfl
theorem fn4 : cfg.fn 4 = some Tryd.f4 := rfl
theorem fn5 : cfg.fn 5 = some Tryd.f5 := rfl
theorem fn6 : cfg.fn 6 = some Tryd.f6 := rfl
theorem fn7 : cfg.fn 7 = some Tryd.f7 := rfl
theorem fn8 : cfg.fn 8 = some Tryd.f8 := rfl
theorem fn9 : cfg.fn 9 = some Tryd.f9 := rfl
theorem fn10 : cfg.fn 10 = some Tryd.f10 := rfl
theorem fn11 : cfg.fn 11 = some Tryd.f11 := rfl
theorem fn12 : cfg.fn 12 = some Tryd.f12 := rfl
theorem fn13 : cfg.fn 13 = some Tryd.f13 := rfl
theorem fn14 : cfg.fn 14 = some Tryd.f14 := rfl
theorem fn15 : cfg.fn 15 = some Tryd.f15 := rfl
theorem fn16 : cfg.fn 16 = some Tryd.f16 := rfl
theorem fn17 : cfg.fn 17 = some Tryd.f17 := rfl
theorem fn18 : cfg.fn 18 = some Tryd.f18 := rfl
theorem fn19 : cfg.fn 19 = some Tryd.f19 := rfl
theorem fn20 : cfg.fn 20 = some Tryd.f20 := rfl
theorem fn21 : cfg.fn 21 = some Tryd.f21 := rfl
theorem fn22 : cfg.fn 22 = some Tryd.f22 := rfl
theorem fn23 : cfg.fn 23 = some Tryd.f23 := rfl
theorem fn24 : cfg.fn 24 = some Tryd.f24 := rfl
theorem fn25 : cfg.fn 25 = some Tryd.f25 := rfl
theorem fn26 : cfg.fn 26 = some Tryd.f26 := rfl
theorem fn27 : cfg.fn 27 = some Tryd.f27 := rfl
theorem fn28 : cfg.fn 28 = some Tryd.f28 := rfl
theorem fn29 : cfg.fn 29 = some Tryd.f29 := rfl
theorem fn30 : cfg.fn 30 = some Tryd.f30 := rfl
theorem fn31 : cfg.fn 31 = some Tryd.f31 := rfl
theorem fn32 : cfg.fn 32 = some Tryd.f32 := rfl
theorem fn33 : cfg.fn 33 = some Tryd.f33 := rfl
theorem fn34 : cfg.fn 34 = some Tryd.f34 := rfl
theorem fn35 : cfg.fn 35 = some Tryd.f35 := rfl
theorem fn36 : cfg.fn 36 = some Tryd.f36 := rfl
theorem fn37 : cfg.fn 37 = some Tryd.f37 := rfl
theorem fn38 : cfg.fn 38 = some Tryd.f38 := rfl
theorem fn39 : cfg.fn 39 = some Tryd.f39 := rfl
theorem fn40 : cfg.fn 40 = some Tryd.f40 := rfl
theorem fn41 : cfg.fn 41 = some Tryd.f41 := rfl
theorem fn42 : cfg.fn 42 = some Tryd.f42 := rfl
theorem fn43 : cfg.fn 43 = some Tryd.f43 := rfl
theorem fn44 : cfg.fn 44 = some Tryd.f44 := rfl
theorem fn45 : cfg.fn 45 = some Tryd.f45 := rfl
theorem fn46 : cfg.fn 46 = some Tryd.f46 := rfl
theorem fn47 : cfg.fn 47 = some Tryd.f47 := rfl
theorem fn48 : cfg.fn 48 = some Tryd.f48 := rfl
theorem fn49 : cfg.fn 49 = some Tryd.f49 := rfl
theorem fn50 : cfg.fn 50 = some Tryd.f50 := rfl
theorem fn51 : cfg.fn 51 = some Tryd.f51 := rfl
theorem fn52 : cfg.fn 52 = some Tryd.f52 := rfl
theorem fn53 : cfg.fn 53 = some Tryd.f53 := rfl
theorem fn54 : cfg.fn 54 = some Tryd.f54 := rfl
theorem fn55 : cfg.fn 55 = some Tryd.f55 := rfl
theorem fn56 : cfg.fn 56 = some Tryd.f56 := rfl
theorem fn57 : cfg.fn 57 = some Tryd.f57 := rfl
theorem fn58 : cfg.fn 58 = some Tryd.f58 := rfl
theorem fn59 : cfg.fn 59 = some Tryd.f59 := rfl
theorem fn60 : cfg.fn 60 = some Tryd.f60 := rfl
theorem fn61 : cfg.fn 61 = some Tryd.f61 := rfl
theorem fn62 : cfg.fn 62 = some Tryd.f62 := rfl
theorem fn63 : cfg.fn 63 = some Tryd.f63 := rfl
theorem fn64 : cfg.fn 64 = some Tryd.f64 := rfl
theorem fn65 : cfg.fn 65 = some Tryd.f65 := rfl
theorem fn66 : cfg.fn 66 = some Tryd.f66 := rfl
theorem fn67 : cfg.fn 67 = some Tryd.f67 := rfl
theorem fn68 : cfg.fn 68 = some Tryd.f68 := rfl
theorem fn69 : cfg.fn 69 = some Tryd.f69 := rfl
theorem fn70 : cfg.fn 70 = some Tryd.f70 := rfl
theorem fn71 : cfg.fn 71 = some Tryd.f71 := rfl
theorem fn72 : cfg.fn 72 = some Tryd.f72 := rfl
theorem fn73 : cfg.fn 73 = some Tryd.f73 := rfl
theorem fn74 : cfg.fn 74 = some Tryd.f74 := rfl
theorem fn75 : cfg.fn 75 = some Tryd.f75 := rfl
theorem fn76 : cfg.fn 76 = some Tryd.f76 := rfl
theorem fn77 : cfg.fn 77 = some Tryd.f77 := rfl
theorem fn78 : cfg.fn 78 = some Tryd.f78 := rfl
theorem fn79 : cfg.fn 79 = some Tryd.f79 := rfl
theorem fn80 : cfg.fn 80 = some Tryd.f80 := rfl
theorem fn81 : cfg.fn 81 = some Tryd.f81 := rfl
theorem fn82 : cfg.fn 82 = some Tryd.f82 := rfl
theorem fn83 : cfg.fn 83 = some Tryd.f83 := rfl
theorem fn84 : cfg.fn 84 = some Tryd.f84 := rfl
theorem fn85 : cfg.fn 85 = some Tryd.f85 := rfl
theorem fn86 : cfg.fn 86 = some Tryd.f86 := rfl
theorem fn96 : cfg.fn 96 = some Tryd.f96 := rfl
theorem fn97 : cfg.fn 97 = some Tryd.f97 := rfl
theorem fn99 : cfg.fn 99 = some Tryd.f99 := rfl
theorem ti2 : cfg.ti 2 = some { size := 1, bytes := 8, zero := [.lit (.int .i64 0)], kind := .int .i64 } := rfl
theorem ti3 : cfg.ti 3 = some { size := 1, bytes := 8, zero := [.lit (.int .i64 0)], kind := .int .i64 } := rfl
theorem ti4 : cfg.ti 4 = some { size := 1, bytes := 1, zero := [.lit (.bool false)], kind := .bool } := rfl
theorem ti5 : cfg.ti 5 = some { size := 1, bytes := 1, zero := [.lit (.int .u8 0)], kind := .int .u8 } := rfl
theorem ti6 : cfg.ti 6 = some { size := 1, bytes := 1, zero := [.lit (.int .u8 0)], kind := .int .u8 } := rfl
theorem ti7 : cfg.ti 7 = some { size := 4, bytes := 24, zero := [.lit (.int .i64 0), .lit (.int .i64 0), .lit (.bool false), .lit (.int .u8 0)], kind := .struct [(0, 2), (1, 3), (2, 4), (3, 6)] } := rfl
theorem ti8 : cfg.ti 8 = some { size := 4, bytes := 24, zero := [.lit (.int .i64 0), .lit (.int .i64 0), .lit (.bool false), .lit (.int .u8 0)], kind := .struct [(0, 2), (1, 3), (2, 4), (3, 6)] } := rfl
theorem ti9 : cfg.ti 9 = some { size := 1, bytes := 16, zero := [.lit (.string ⟨#[]⟩)], kind := .str } := rfl
theorem ti10 : cfg.ti 10 = some { size := 1, bytes := 16, zero := [.lit (.string ⟨#[]⟩)], kind := .str } := rfl
theorem ti11 : cfg.ti 11 = some { size := 1, bytes := 16, zero := [.lit (.string ⟨#[]⟩)], kind := .str } := rfl
theorem ti12 : cfg.ti 12 = some { size := 1, bytes := 8, zero := [.lit (.int .u64 0)], kind := .int .u64 } := rfl
theorem ti13 : cfg.ti 13 = some { size := 2, bytes := 24, zero := [.lit (.string ⟨#[]⟩), .lit (.int .u64 0)], kind := .struct [(0, 9), (1, 12)] } := rfl
theorem ti14 : cfg.ti 14 = some { size := 2, bytes := 24, zero := [.lit (.string ⟨#[]⟩), .lit (.int .u64 0)], kind := .struct [(0, 9), (1, 12)] } := rfl
theorem ti15 : cfg.ti 15 = some { size := 1, bytes := 8, zero := [.lit (.pointer none)], kind := .other } := rfl
theorem ti16 : cfg.ti 16 = some { size := 1, bytes := 8, zero := [.lit (.pointer none)], kind := .other } := rfl
theorem ti17 : cfg.ti 17 = some { size := 1, bytes := 8, zero := [.lit (.pointer none)], kind := .other } := rfl
theorem ti18 : cfg.ti 18 = some { size := 1, bytes := 8, zero := [.lit (.pointer none)], kind := .struct [(0, 17)] } := rfl
theorem ti19 : cfg.ti 19 = some { size := 1, bytes := 8, zero := [.lit (.pointer none)], kind := .struct [(0, 17)] } := rfl
theorem ti21 : cfg.ti 21 = some { size := 1, bytes := 4, zero := [.lit (.int .i32 0)], kind := .int .i32 } := rfl
theorem ti22 : cfg.ti 22 = some { size := 1, bytes := 24, zero := [.nil], kind := .slice 25 } := rfl
theorem ti23 : cfg.ti 23 = some { size := 1, bytes := 24, zero := [.nil], kind := .slice 71 } := rfl
theorem ti24 : cfg.ti 24 = some { size := 5, bytes := 72, zero := [.lit (.int .i64 0), .lit (.int .i64 0), .lit (.int .i64 0), .nil, .nil], kind := .struct [(0, 3), (1, 3), (2, 3), (3, 22), (4, 23)] } := rfl
theorem ti25 : cfg.ti 25 = some { size := 5, bytes := 72, zero := [.lit (.int .i64 0), .lit (.int .i64 0), .lit (.int .i64 0), .nil, .nil], kind := .struct [(0, 3), (1, 3), (2, 3), (3, 22), (4, 23)] } := rfl
theorem ti27 : cfg.ti 27 = some { size := 1, bytes := 8, zero := [.lit (.pointer none)], kind := .other } := rfl
theorem ti28 : cfg.ti 28 = some { size := 1, bytes := 8, zero := [.lit (.int .i64 0)], kind := .struct [(0, 3)] } := rfl
theorem ti29 : cfg.ti 29 = some { size := 1, bytes := 8, zero := [.lit (.int .i64 0)], kind := .struct [(0, 3)] } := rfl
theorem ti31 : cfg.ti 31 = some { size := 1, bytes := 24, zero := [.nil], kind := .slice 34 } := rfl
theorem ti32 : cfg.ti 32 = some { size := 1, bytes := 24, zero := [.nil], kind := .slice 72 } := rfl
theorem ti33 : cfg.ti 33 = some { size := 5, bytes := 72, zero := [.lit (.int .i64 0), .lit (.int .i64 0), .lit (.int .i64 0), .nil, .nil], kind := .struct [(0, 3), (1, 3), (2, 3), (3, 31), (4, 32)] } := rfl
theorem ti34 : cfg.ti 34 = some { size := 5, bytes := 72, zero := [.lit (.int .i64 0), .lit (.int .i64 0), .lit (.int .i64 0), .nil, .nil], kind := .struct [(0, 3), (1, 3), (2, 3), (3, 31), (4, 32)] } := rfl
theorem ti36 : cfg.ti 36 = some { size := 1, bytes := 8, zero := [.lit (.int .i64 0)], kind := .int .i64 } := rfl
theorem ti46 : cfg.ti 46 = some { size := 1, bytes := 24, zero := [.nil], kind := .slice 48 } := rfl
theorem ti47 : cfg.ti 47 = some { size := 3, bytes := 40, zero := [.lit (.int .i64 0), .lit (.int .i64 0), .nil], kind := .struct [(0, 3), (1, 3), (2, 46)] } := rfl
theorem ti48 : cfg.ti 48 = some { size := 3, bytes := 40, zero := [.lit (.int .i64 0), .lit (.int .i64 0), .nil], kind := .struct [(0, 3), (1, 3), (2, 46)] } := rfl
theorem ti50 : cfg.ti 50 = some { size := 1, bytes := 8, zero := [.lit (.pointer none)], kind := .other } := rfl
theorem ti51 : cfg.ti 51 = some { size := 1, bytes := 8, zero := [.lit (.int .i64 0)], kind := .struct [(0, 3)] } := rfl
theorem ti66 : cfg.ti 66 = some { size := 1, bytes := 24, zero := [.nil], kind := .slice 3 } := rfl
theorem ti70 : cfg.ti 70 = some { size := 3, bytes := 24, zero := [.lit (.int .i64 0), .lit (.int .i64 0), .lit (.int .i64 0)], kind := .struct [(0, 3), (1, 3), (2, 3)] } := rfl
theorem ti71 : cfg.ti 71 = some { size := 3, bytes := 24, zero := [.lit (.int .i64 0), .lit (.int .i64 0), .lit (.int .i64 0)], kind := .struct [(0, 3), (1, 3), (2, 3)] } := rfl
theorem ti72 : cfg.ti 72 = some { size := 3, bytes := 24, zero := [.lit (.int .i64 0), .lit (.int .i64 0), .lit (.int .i64 0)], kind := .struct [(0, 3), (1, 3), (2, 3)] } := rfl
theorem ti82 : cfg.ti 82 = some { size := 1, bytes := 8, zero := [.lit (.pointer none)], kind := .other } := rfl
theorem ti83 : cfg.ti 83 = some { size := 1, bytes := 24, zero := [.nil], kind := .slice 5 } := rfl
theorem ti84 : cfg.ti 84 = some { size := 2, bytes := 32, zero := [.lit (.pointer none), .nil], kind := .struct [(0, 82), (1, 83)] } := rfl
theorem ti85 : cfg.ti 85 = some { size := 2, bytes := 32, zero := [.lit (.pointer none), .nil], kind := .struct [(0, 82), (1, 83)] } := rfl
theorem ti92 : cfg.ti 92 = some { size := 4, bytes := 48, zero := [.lit (.int .i64 0), .lit (.int .i64 0), .nil, .lit (.int .i64 0)], kind := .struct [(0, 48), (3, 3)] } := rfl
theorem ti93 : cfg.ti 93 = some { size := 4, bytes := 48, zero := [.lit (.int .i64 0), .lit (.int .i64 0), .nil, .lit (.int .i64 0)], kind := .struct [(0, 48), (3, 3)] } := rfl
theorem ti99 : cfg.ti 99 = some { size := 11, bytes := 176, zero := [.lit (.string ⟨#[]⟩), .lit (.string ⟨#[]⟩), .lit (.string ⟨#[]⟩), .lit (.string ⟨#[]⟩), .lit (.string ⟨#[]⟩), .lit (.string ⟨#[]⟩), .lit (.string ⟨#[]⟩), .lit (.string ⟨#[]⟩), .lit (.string ⟨#[]⟩), .lit (.string ⟨#[]⟩), .lit (.string ⟨#[]⟩)], kind := .array 11 9 } := rfl
theorem ti100 : cfg.ti 100 = some { size := 1, bytes := 24, zero := [.nil], kind := .slice 9 } := rfl
theorem ti101 : cfg.ti 101 = some { size := 4, bytes := 40, zero := [.lit (.string ⟨#[]⟩), .lit (.int .i64 0), .lit (.int .i64 0), .lit (.int .i64 0)], kind := .struct [(0, 9), (1, 3), (2, 3), (3, 3)] } := rfl
theorem ti102 : cfg.ti 102 = some { size := 4, bytes := 40, zero := [.lit (.string ⟨#[]⟩), .lit (.int .i64 0), .lit (.int .i64 0), .lit (.int .i64 0)], kind := .struct [(0, 9), (1, 3), (2, 3), (3, 3)] } := rfl
theorem ti103 : cfg.ti 103 = some { size := 60, bytes := 600, zero := [.lit (.string ⟨#[]⟩), .lit (.int .i64 0), .lit (.int .i64 0), .lit (.int .i64 0), .lit (.string ⟨#[]⟩), .lit (.int .i64 0), .lit (.int .i64 0), .lit (.int .i64 0), .lit (.string ⟨#[]⟩), .lit (.int .i64 0), .lit (.int .i64 0), .lit (.int .i64 0), .lit (.string ⟨#[]⟩), .lit (.int .i64 0), .lit (.int .i64 0), .lit (.int .i64 0), .lit (.string ⟨#[]⟩), .lit (.int .i64 0), .lit (.int .i64 0), .lit (.int .i64 0), .lit (.string ⟨#[]⟩), .lit (.int .i64 0), .lit (.int .i64 0), .lit (.int .i64 0), .lit (.string ⟨#[]⟩), .lit (.int .i64 0), .lit (.int .i64 0), .lit (.int .i64 0), .lit (.string ⟨#[]⟩), .lit (.int .i64 0), .lit (.int .i64 0), .lit (.int .i64 0), .lit (.string ⟨#[]⟩), .lit (.int .i64 0), .lit (.int .i64 0), .lit (.int .i64 0), .lit (.string ⟨#[]⟩), .lit (.int .i64 0), .lit (.int .i64 0), .lit (.int .i64 0), .lit (.string ⟨#[]⟩), .lit (.int .i64 0), .lit (.int .i64 0), .lit (.int .i64 0), .lit (.string ⟨#[]⟩), .lit (.int .i64 0), .lit (.int .i64 0), .lit (.int .i64 0), .lit (.string ⟨#[]⟩), .lit (.int .i64 0), .lit (.int .i64 0), .lit (.int .i64 0), .lit (.string ⟨#[]⟩), .lit (.int .i64 0), .lit (.int .i64 0), .lit (.int .i64 0), .lit (.string ⟨#[]⟩), .lit (.int .i64 0), .lit (.int .i64 0), .lit (.int .i64 0)], kind := .array 15 102 } := rfl
theorem ti110 : cfg.ti 110 = some { size := 1, bytes := 8, zero := [.lit (.pointer none)], kind := .other } := rfl
theorem ti116 : cfg.ti 116 = some { size := 1, bytes := 24, zero := [.nil], kind := .slice 102 } := rfl
theorem ti125 : cfg.ti 125 = some { size := 1, bytes := 8, zero := [.lit (.int .u64 0)], kind := .int .u64 } := rfl
theorem ti128 : cfg.ti 128 = some { size := 1, bytes := 8, zero := [.lit (.int .i64 0)], kind := .int .i64 } := rfl
theorem ti136 : cfg.ti 136 = some { size := 1, bytes := 4, zero := [.lit (.int .u32 0)], kind := .int .u32 } := rfl
theorem ti138 : cfg.ti 138 = some { size := 1, bytes := 8, zero := [.lit (.int .u64 0)], kind := .int .u64 } := rfl
theorem ti142 : cfg.ti 142 = some { size := 1, bytes := 8, zero := [.lit (.int .u64 0)], kind := .int .u64 } := rfl
theorem ti146 : cfg.ti 146 = some { size := 1, bytes := 8, zero := [.lit (.pointer none)], kind := .other } := rfl
theorem ti148 : cfg.ti 148 = some { size := 1, bytes := 8, zero := [.lit (.pointer none)], kind := .other } := rfl
theorem ti150 : cfg.ti 150 = some { size := 4, bytes := 40, zero := [.lit (.pointer none), .lit (.pointer none), .lit (.pointer none), .lit (.string ⟨#[]⟩)], kind := .struct [(0, 17), (1, 17), (2, 17), (3, 9)] } := rfl
theorem ti151 : cfg.ti 151 = some { size := 4, bytes := 40, zero := [.lit (.pointer none), .lit (.pointer none), .lit (.pointer none), .lit (.string ⟨#[]⟩)], kind := .struct [(0, 17), (1, 17), (2, 17), (3, 9)] } := rfl
theorem ti152 : cfg.ti 152 = some { size := 0, bytes := 0, zero := [], kind := .array 0 16 } := rfl
theorem ti153 : cfg.ti 153 = some { size := 0, bytes := 0, zero := [], kind := .struct [(0, 152)] } := rfl
theorem ti154 : cfg.ti 154 = some { size := 0, bytes := 0, zero := [], kind := .struct [(0, 152)] } := rfl
theorem ti155 : cfg.ti 155 = some { size := 1, bytes := 1, zero := [.lit (.int .u8 0)], kind := .int .u8 } := rfl
theorem ti156 : cfg.ti 156 = some { size := 1, bytes := 1, zero := [.lit (.int .u8 0)], kind := .int .u8 } := rfl
theorem ti158 : cfg.ti 158 = some { size := 1, bytes := 4, zero := [.lit (.int .i32 0)], kind := .int .i32 } := rfl
theorem ti159 : cfg.ti 159 = some { size := 1, bytes := 4, zero := [.lit (.int .i32 0)], kind := .int .i32 } := rfl
theorem gl1 : cfg.glob 1 = some (.lit (.string ⟨#[]⟩) :: .lit (.int .i64 0) :: .lit (.int .i64 0) :: .lit (.int .i64 0) :: .lit (.string ⟨#[]⟩) :: .lit (.int .i64 0) :: .lit (.int .i64 0) :: .lit (.int .i64 0) :: .lit (.string ⟨#[]⟩) :: .lit (.int .i64 0) :: .lit (.int .i64 0) :: .lit (.int .i64 0) :: .lit (.string ⟨#[110, 101, 103]⟩) :: .lit (.int .i64 1) :: .lit (.int .i64 1) :: .lit (.int .i64 1) :: .lit (.string ⟨#[110, 111, 116]⟩) :: .lit (.int .i64 1) :: .lit (.int .i64 2) :: .lit (.int .i64 2) :: .lit (.string ⟨#[97, 100, 100]⟩) :: .lit (.int .i64 2) :: .lit (.int .i64 1) :: .lit (.int .i64 1) :: .lit (.string ⟨#[115, 117, 98]⟩) :: .lit (.int .i64 2) :: .lit (.int .i64 1) :: .lit (.int .i64 1) :: .lit (.string ⟨#[109, 117, 108]⟩) :: .lit (.int .i64 2) :: .lit (.int .i64 1) :: .lit (.int .i64 1) :: .lit (.string ⟨#[100, 105, 118]⟩) :: .lit (.int .i64 2) :: .lit (.int .i64 1) :: .lit (.int .i64 1) :: .lit (.string ⟨#[109, 111, 100]⟩) :: .lit (.int .i64 2) :: .lit (.int .i64 1) :: .lit (.int .i64 1) :: .lit (.string ⟨#[101, 113]⟩) :: .lit (.int .i64 2) :: .lit (.int .i64 1) :: .lit (.int .i64 2) :: .lit (.string ⟨#[108, 116]⟩) :: .lit (.int .i64 2) :: .lit (.int .i64 1) :: .lit (.int .i64 2) :: .lit (.string ⟨#[108, 101]⟩) :: .lit (.int .i64 2) :: .lit (.int .i64 1) :: .lit (.int .i64 2) :: .lit (.string ⟨#[97, 110, 100]⟩) :: .lit (.int .i64 2) :: .lit (.int .i64 2) :: .lit (.int .i64 2) :: .lit (.string ⟨#[111, 114]⟩) :: .lit (.int .i64 2) :: .lit (.int .i64 2) :: .lit (.int .i64 2) :: []) := rfl
end Go.Proofs.YtgppmcpbphgnnaaDoor
