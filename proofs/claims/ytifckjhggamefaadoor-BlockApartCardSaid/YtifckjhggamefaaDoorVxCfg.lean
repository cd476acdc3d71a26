/- The abstract interpreter's table for this seat: bodies, types, tables, policies. Written by a program (vxgen.py). -/
import Derived.Test.YtifckjhggamefaaDoorProg
import Derived.Test.YtifckjhggamefaaDoorVa
set_option linter.unusedSimpArgs false
set_option linter.unusedVariables false
set_option linter.unusedSectionVars false
namespace Go.Proofs.YtifckjhggamefaaDoor
open Go Go.Vx

noncomputable def fnT : Nat → Option Func
  | 3 => some Tryd.f3
  | 4 => some Tryd.f4
  | 5 => some Tryd.f5
  | 6 => some Tryd.f6
  | 7 => some Tryd.f7
  | 8 => some Tryd.f8
  | 9 => some Tryd.f9
  | 10 => some Tryd.f10
  | 11 => some Tryd.f11
  | 12 => some Tryd.f12
  | 13 => some Tryd.f13
  | 14 => some Tryd.f14
  | 15 => some Tryd.f15
  | 16 => some Tryd.f16
  | 17 => some Tryd.f17
  | 18 => some Tryd.f18
  | 19 => some Tryd.f19
  | 20 => some Tryd.f20
  | 21 => some Tryd.f21
  | 22 => some Tryd.f22
  | 23 => some Tryd.f23
  | 24 => some Tryd.f24
  | 25 => some Tryd.f25
  | 26 => some Tryd.f26
  | 27 => some Tryd.f27
  | 28 => some Tryd.f28
  | 29 => some Tryd.f29
  | 30 => some Tryd.f30
  | 31 => some Tryd.f31
  | 32 => some Tryd.f32
  | 33 => some Tryd.f33
  | 34 => some Tryd.f34
  | 35 => some Tryd.f35
  | 36 => some Tryd.f36
  | 37 => some Tryd.f37
  | 38 => some Tryd.f38
  | 39 => some Tryd.f39
  | 40 => some Tryd.f40
  | 41 => some Tryd.f41
  | 42 => some Tryd.f42
  | 43 => some Tryd.f43
  | 44 => some Tryd.f44
  | 45 => some Tryd.f45
  | 46 => some Tryd.f46
  | 47 => some Tryd.f47
  | 48 => some Tryd.f48
  | 49 => some Tryd.f49
  | 50 => some Tryd.f50
  | 51 => some Tryd.f51
  | 52 => some Tryd.f52
  | 53 => some Tryd.f53
  | 54 => some Tryd.f54
  | 55 => some Tryd.f55
  | 56 => some Tryd.f56
  | 57 => some Tryd.f57
  | 58 => some Tryd.f58
  | 59 => some Tryd.f59
  | 60 => some Tryd.f60
  | 63 => some Tryd.f63
  | 64 => some Tryd.f64
  | 65 => some Tryd.f65
  | 66 => some Tryd.f66
  | 67 => some Tryd.f67
  | 68 => some Tryd.f68
  | 69 => some Tryd.f69
  | 70 => some Tryd.f70
  | 82 => some Tryd.f82
  | 83 => some Tryd.f83
  | 90 => some Tryd.f90
  | 91 => some Tryd.f91
  | 92 => some Tryd.f92
  | 93 => some Tryd.f93
  | 94 => some Tryd.f94
  | 95 => some Tryd.f95
  | 96 => some Tryd.f96
  | 97 => some Tryd.f97
  | 98 => some Tryd.f98
  | 99 => some Tryd.f99
  | 100 => some Tryd.f100
  | _ => none

def tiT : Nat → Option TI
  | 2 => some { size := 1, bytes := 8, zero := [.lit (.int .i64 0)], kind := .int .i64 }
  | 3 => some { size := 1, bytes := 8, zero := [.lit (.int .i64 0)], kind := .int .i64 }
  | 4 => some { size := 1, bytes := 1, zero := [.lit (.bool false)], kind := .bool }
  | 5 => some { size := 1, bytes := 1, zero := [.lit (.int .u8 0)], kind := .int .u8 }
  | 6 => some { size := 1, bytes := 1, zero := [.lit (.int .u8 0)], kind := .int .u8 }
  | 7 => some { size := 4, bytes := 24, zero := [.lit (.int .i64 0), .lit (.int .i64 0), .lit (.bool false), .lit (.int .u8 0)], kind := .struct [(0, 2), (1, 3), (2, 4), (3, 6)] }
  | 8 => some { size := 4, bytes := 24, zero := [.lit (.int .i64 0), .lit (.int .i64 0), .lit (.bool false), .lit (.int .u8 0)], kind := .struct [(0, 2), (1, 3), (2, 4), (3, 6)] }
  | 9 => some { size := 1, bytes := 16, zero := [.lit (.string ⟨#[]⟩)], kind := .str }
  | 10 => some { size := 1, bytes := 16, zero := [.lit (.string ⟨#[]⟩)], kind := .str }
  | 11 => some { size := 1, bytes := 16, zero := [.lit (.string ⟨#[]⟩)], kind := .str }
  | 12 => some { size := 1, bytes := 8, zero := [.lit (.int .u64 0)], kind := .int .u64 }
  | 13 => some { size := 2, bytes := 24, zero := [.lit (.string ⟨#[]⟩), .lit (.int .u64 0)], kind := .struct [(0, 9), (1, 12)] }
  | 14 => some { size := 2, bytes := 24, zero := [.lit (.string ⟨#[]⟩), .lit (.int .u64 0)], kind := .struct [(0, 9), (1, 12)] }
  | 15 => some { size := 1, bytes := 8, zero := [.lit (.pointer none)], kind := .other }
  | 16 => some { size := 1, bytes := 8, zero := [.lit (.pointer none)], kind := .other }
  | 17 => some { size := 1, bytes := 8, zero := [.lit (.pointer none)], kind := .other }
  | 18 => some { size := 1, bytes := 8, zero := [.lit (.pointer none)], kind := .struct [(0, 17)] }
  | 19 => some { size := 1, bytes := 8, zero := [.lit (.pointer none)], kind := .struct [(0, 17)] }
  | 21 => some { size := 1, bytes := 4, zero := [.lit (.int .i32 0)], kind := .int .i32 }
  | 22 => some { size := 1, bytes := 24, zero := [.nil], kind := .slice 57 }
  | 23 => some { size := 1, bytes := 24, zero := [.nil], kind := .slice 60 }
  | 24 => some { size := 2, bytes := 48, zero := [.nil, .nil], kind := .struct [(0, 22), (1, 23)] }
  | 25 => some { size := 2, bytes := 48, zero := [.nil, .nil], kind := .struct [(0, 22), (1, 23)] }
  | 26 => some { size := 1, bytes := 24, zero := [.nil], kind := .slice 29 }
  | 27 => some { size := 1, bytes := 24, zero := [.nil], kind := .slice 70 }
  | 28 => some { size := 5, bytes := 72, zero := [.lit (.int .i64 0), .lit (.int .i64 0), .lit (.int .i64 0), .nil, .nil], kind := .struct [(0, 3), (1, 3), (2, 3), (3, 26), (4, 27)] }
  | 29 => some { size := 5, bytes := 72, zero := [.lit (.int .i64 0), .lit (.int .i64 0), .lit (.int .i64 0), .nil, .nil], kind := .struct [(0, 3), (1, 3), (2, 3), (3, 26), (4, 27)] }
  | 32 => some { size := 1, bytes := 8, zero := [.lit (.pointer none)], kind := .other }
  | 33 => some { size := 1, bytes := 8, zero := [.lit (.int .i64 0)], kind := .struct [(0, 3)] }
  | 34 => some { size := 1, bytes := 8, zero := [.lit (.int .i64 0)], kind := .struct [(0, 3)] }
  | 36 => some { size := 1, bytes := 8, zero := [.lit (.int .i64 0)], kind := .int .i64 }
  | 42 => some { size := 1, bytes := 24, zero := [.nil], kind := .slice 3 }
  | 47 => some { size := 1, bytes := 24, zero := [.nil], kind := .slice 50 }
  | 48 => some { size := 1, bytes := 24, zero := [.nil], kind := .slice 77 }
  | 49 => some { size := 5, bytes := 72, zero := [.lit (.int .i64 0), .lit (.int .i64 0), .lit (.int .i64 0), .nil, .nil], kind := .struct [(0, 3), (1, 3), (2, 3), (3, 47), (4, 48)] }
  | 50 => some { size := 5, bytes := 72, zero := [.lit (.int .i64 0), .lit (.int .i64 0), .lit (.int .i64 0), .nil, .nil], kind := .struct [(0, 3), (1, 3), (2, 3), (3, 47), (4, 48)] }
  | 53 => some { size := 1, bytes := 24, zero := [.nil], kind := .slice 55 }
  | 54 => some { size := 3, bytes := 40, zero := [.lit (.int .i64 0), .lit (.int .i64 0), .nil], kind := .struct [(0, 3), (1, 3), (2, 53)] }
  | 55 => some { size := 3, bytes := 40, zero := [.lit (.int .i64 0), .lit (.int .i64 0), .nil], kind := .struct [(0, 3), (1, 3), (2, 53)] }
  | 56 => some { size := 5, bytes := 56, zero := [.lit (.int .i64 0), .lit (.int .i64 0), .lit (.int .i64 0), .lit (.int .i64 0), .nil], kind := .struct [(0, 3), (1, 3), (2, 55)] }
  | 57 => some { size := 5, bytes := 56, zero := [.lit (.int .i64 0), .lit (.int .i64 0), .lit (.int .i64 0), .lit (.int .i64 0), .nil], kind := .struct [(0, 3), (1, 3), (2, 55)] }
  | 59 => some { size := 6, bytes := 64, zero := [.lit (.int .i64 0), .lit (.int .i64 0), .lit (.bool false), .lit (.int .i64 0), .lit (.int .i64 0), .nil], kind := .struct [(0, 3), (1, 3), (2, 4), (3, 55)] }
  | 60 => some { size := 6, bytes := 64, zero := [.lit (.int .i64 0), .lit (.int .i64 0), .lit (.bool false), .lit (.int .i64 0), .lit (.int .i64 0), .nil], kind := .struct [(0, 3), (1, 3), (2, 4), (3, 55)] }
  | 69 => some { size := 3, bytes := 24, zero := [.lit (.int .i64 0), .lit (.int .i64 0), .lit (.int .i64 0)], kind := .struct [(0, 3), (1, 3), (2, 3)] }
  | 70 => some { size := 3, bytes := 24, zero := [.lit (.int .i64 0), .lit (.int .i64 0), .lit (.int .i64 0)], kind := .struct [(0, 3), (1, 3), (2, 3)] }
  | 77 => some { size := 3, bytes := 24, zero := [.lit (.int .i64 0), .lit (.int .i64 0), .lit (.int .i64 0)], kind := .struct [(0, 3), (1, 3), (2, 3)] }
  | 79 => some { size := 1, bytes := 24, zero := [.nil], kind := .slice 82 }
  | 81 => some { size := 2, bytes := 16, zero := [.lit (.int .i64 0), .lit (.int .i64 0)], kind := .struct [(0, 3), (1, 3)] }
  | 82 => some { size := 2, bytes := 16, zero := [.lit (.int .i64 0), .lit (.int .i64 0)], kind := .struct [(0, 3), (1, 3)] }
  | 86 => some { size := 11, bytes := 176, zero := [.lit (.string ⟨#[]⟩), .lit (.string ⟨#[]⟩), .lit (.string ⟨#[]⟩), .lit (.string ⟨#[]⟩), .lit (.string ⟨#[]⟩), .lit (.string ⟨#[]⟩), .lit (.string ⟨#[]⟩), .lit (.string ⟨#[]⟩), .lit (.string ⟨#[]⟩), .lit (.string ⟨#[]⟩), .lit (.string ⟨#[]⟩)], kind := .array 11 9 }
  | 92 => some { size := 1, bytes := 24, zero := [.nil], kind := .slice 4 }
  | 101 => some { size := 1, bytes := 8, zero := [.lit (.int .u64 0)], kind := .int .u64 }
  | 107 => some { size := 1, bytes := 8, zero := [.lit (.int .i64 0)], kind := .int .i64 }
  | 116 => some { size := 1, bytes := 4, zero := [.lit (.int .u32 0)], kind := .int .u32 }
  | 118 => some { size := 1, bytes := 8, zero := [.lit (.int .u64 0)], kind := .int .u64 }
  | 121 => some { size := 1, bytes := 8, zero := [.lit (.int .u64 0)], kind := .int .u64 }
  | 125 => some { size := 1, bytes := 8, zero := [.lit (.pointer none)], kind := .other }
  | 129 => some { size := 1, bytes := 8, zero := [.lit (.pointer none)], kind := .other }
  | 131 => some { size := 4, bytes := 40, zero := [.lit (.string ⟨#[]⟩), .lit (.int .i64 0), .lit (.int .i64 0), .lit (.int .i64 0)], kind := .struct [(0, 9), (1, 3), (2, 3), (3, 3)] }
  | 132 => some { size := 4, bytes := 40, zero := [.lit (.string ⟨#[]⟩), .lit (.int .i64 0), .lit (.int .i64 0), .lit (.int .i64 0)], kind := .struct [(0, 9), (1, 3), (2, 3), (3, 3)] }
  | 133 => some { size := 60, bytes := 600, zero := [.lit (.string ⟨#[]⟩), .lit (.int .i64 0), .lit (.int .i64 0), .lit (.int .i64 0), .lit (.string ⟨#[]⟩), .lit (.int .i64 0), .lit (.int .i64 0), .lit (.int .i64 0), .lit (.string ⟨#[]⟩), .lit (.int .i64 0), .lit (.int .i64 0), .lit (.int .i64 0), .lit (.string ⟨#[]⟩), .lit (.int .i64 0), .lit (.int .i64 0), .lit (.int .i64 0), .lit (.string ⟨#[]⟩), .lit (.int .i64 0), .lit (.int .i64 0), .lit (.int .i64 0), .lit (.string ⟨#[]⟩), .lit (.int .i64 0), .lit (.int .i64 0), .lit (.int .i64 0), .lit (.string ⟨#[]⟩), .lit (.int .i64 0), .lit (.int .i64 0), .lit (.int .i64 0), .lit (.string ⟨#[]⟩), .lit (.int .i64 0), .lit (.int .i64 0), .lit (.int .i64 0), .lit (.string ⟨#[]⟩), .lit (.int .i64 0), .lit (.int .i64 0), .lit (.int .i64 0), .lit (.string ⟨#[]⟩), .lit (.int .i64 0), .lit (.int .i64 0), .lit (.int .i64 0), .lit (.string ⟨#[]⟩), .lit (.int .i64 0), .lit (.int .i64 0), .lit (.int .i64 0), .lit (.string ⟨#[]⟩), .lit (.int .i64 0), .lit (.int .i64 0), .lit (.int .i64 0), .lit (.string ⟨#[]⟩), .lit (.int .i64 0), .lit (.int .i64 0), .lit (.int .i64 0), .lit (.string ⟨#[]⟩), .lit (.int .i64 0), .lit (.int .i64 0), .lit (.int .i64 0), .lit (.string ⟨#[]⟩), .lit (.int .i64 0), .lit (.int .i64 0), .lit (.int .i64 0)], kind := .array 15 132 }
  | 137 => some { size := 4, bytes := 40, zero := [.lit (.pointer none), .lit (.pointer none), .lit (.pointer none), .lit (.string ⟨#[]⟩)], kind := .struct [(0, 17), (1, 17), (2, 17), (3, 9)] }
  | 138 => some { size := 4, bytes := 40, zero := [.lit (.pointer none), .lit (.pointer none), .lit (.pointer none), .lit (.string ⟨#[]⟩)], kind := .struct [(0, 17), (1, 17), (2, 17), (3, 9)] }
  | 139 => some { size := 0, bytes := 0, zero := [], kind := .array 0 16 }
  | 140 => some { size := 0, bytes := 0, zero := [], kind := .struct [(0, 139)] }
  | 141 => some { size := 0, bytes := 0, zero := [], kind := .struct [(0, 139)] }
  | 143 => some { size := 1, bytes := 1, zero := [.lit (.int .u8 0)], kind := .int .u8 }
  | 144 => some { size := 1, bytes := 1, zero := [.lit (.int .u8 0)], kind := .int .u8 }
  | 146 => some { size := 1, bytes := 8, zero := [.lit (.pointer none)], kind := .other }
  | 147 => some { size := 1, bytes := 4, zero := [.lit (.int .i32 0)], kind := .int .i32 }
  | 148 => some { size := 1, bytes := 4, zero := [.lit (.int .i32 0)], kind := .int .i32 }
  | _ => none

def cxT : Nat → Cx
  | 4 => { pol := [], segs := [(15, [1, 1, 4, 1, 1, 1, 4, 1, 1, 1, 1, 1])], live := [(13, [3, 4, 5, 7, 9, 12, 13, 14, 100, 101], [7, 9, 12, 13, 14])], mix := [] }
  | 5 => { pol := [], segs := [], live := [(5, [1, 3, 21, 22, 23], [1, 2, 3]), (11, [3, 33, 34, 35], [2])], mix := [] }
  | 6 => { pol := [], segs := [], live := [(5, [1, 2, 39, 40, 41], [6])], mix := [] }
  | 11 => { pol := [], segs := [], live := [(7, [2, 7, 23, 24], [2, 7])], mix := [] }
  | 13 => { pol := [], segs := [], live := [(3, [3, 8, 9, 10], [3])], mix := [] }
  | 14 => { pol := [], segs := [(5, [5, 1, 1, 1])], live := [(3, [1, 2, 3, 16, 17, 18], [1, 2, 3]), (8, [2, 3, 31, 32, 33], [2, 3])], mix := [] }
  | 15 => { pol := [], segs := [], live := [(7, [2, 3, 4, 7, 37, 38, 39], [2, 3, 4, 7]), (13, [2, 3, 7, 55, 56, 57], [7])], mix := [] }
  | 16 => { pol := [], segs := [], live := [(5, [1, 2, 33, 34, 35], [6])], mix := [] }
  | 17 => { pol := [], segs := [(3, [9, 1])], live := [], mix := [] }
  | 21 => { pol := [], segs := [(6, [9, 1]), (11, [9, 1])], live := [(4, [0, 3], [0, 2]), (9, [0, 3, 4, 5], [0, 3])], mix := [] }
  | 24 => { pol := [], segs := [(24, [16, 1, 1])], live := [(16, [1, 3, 54, 55, 56], [1, 3]), (22, [3, 70, 71, 72], [3])], mix := [] }
  | 25 => { pol := [], segs := [(6, [8, 1])], live := [(4, [0, 1, 12, 13], [4])], mix := [] }
  | 26 => { pol := [], segs := [], live := [(4, [1, 2, 15, 16, 17], [6])], mix := [] }
  | 27 => { pol := [], segs := [], live := [(5, [0, 1, 5, 6], [0, 5])], mix := [] }
  | 30 => { pol := [], segs := [], live := [(3, [1, 10, 11, 12], [])], mix := [] }
  | 32 => { pol := [(8, 1, .copy)], segs := [], live := [(3, [1, 5, 9, 10, 11], [5])], mix := [] }
  | 33 => { pol := [], segs := [(12, [10, 1, 1])], live := [], mix := [] }
  | 34 => { pol := [], segs := [], live := [(3, [3, 7, 8, 9], [3])], mix := [] }
  | 38 => { pol := [], segs := [(11, [8, 1, 1])], live := [(9, [1, 2, 3, 19, 20, 21], [2, 3])], mix := [] }
  | 41 => { pol := [], segs := [], live := [(3, [1, 27, 28, 29], [])], mix := [] }
  | 43 => { pol := [], segs := [], live := [(2, [0, 1, 7, 8], [4])], mix := [] }
  | 44 => { pol := [], segs := [], live := [(2, [0, 1, 7, 8], [4])], mix := [] }
  | 45 => { pol := [], segs := [], live := [(3, [0, 2, 7, 9, 10], [7])], mix := [] }
  | 48 => { pol := [], segs := [(1, [6, 1, 1, 1])], live := [], mix := [] }
  | 50 => { pol := [], segs := [(1, [6, 1, 1])], live := [], mix := [] }
  | 51 => { pol := [(5, 1, .take), (16, 1, .copy)], segs := [], live := [(3, [2, 3, 7, 8], [7]), (9, [2, 3, 7, 8, 9, 34, 35, 36], [2, 3, 7, 8])], mix := [] }
  | 57 => { pol := [], segs := [], live := [(3, [2, 3, 5, 6, 10, 11, 12], [3, 4, 5, 6])], mix := [] }
  | 58 => { pol := [], segs := [], live := [(2, [0, 1, 7, 8], [4])], mix := [] }
  | 59 => { pol := [(8, 1, .copy)], segs := [], live := [(3, [1, 5, 9, 10, 11], [5])], mix := [] }
  | 67 => { pol := [], segs := [(2, [11, 1]), (10, [1, 1, 8, 1, 1, 1, 1, 1, 1])], live := [(6, [2, 5, 6, 7, 8, 9, 26, 27, 28], [5, 6, 7, 8, 9])], mix := [] }
  | 68 => { pol := [], segs := [], live := [(2, [0, 1, 7, 8], [4])], mix := [] }
  | 93 => { pol := [], segs := [(1, [8, 1])], live := [], mix := [] }
  | 95 => { pol := [], segs := [(5, [1, 1, 1, 1, 1, 1, 1, 1, 1, 1, 1, 1, 1, 1, 8, 1, 1, 1])], live := [], mix := [] }
  | 97 => { pol := [], segs := [(1, [4, 1, 1])], live := [], mix := [] }
  | 100 => { pol := [], segs := [], live := [(2, [0, 1, 7, 8], [4])], mix := [] }
  | _ => { pol := [], segs := [], live := [], mix := [] }

def glT : Nat → Option (List D)
  | 0 => some (.lit (.string ⟨#[]⟩) :: .lit (.string ⟨#[]⟩) :: .lit (.string ⟨#[]⟩) :: .lit (.string ⟨#[115, 101, 113]⟩) :: .lit (.string ⟨#[112, 97, 114]⟩) :: .lit (.string ⟨#[97, 108, 116]⟩) :: .lit (.string ⟨#[112, 105, 99, 107]⟩) :: .lit (.string ⟨#[108, 111, 111, 112]⟩) :: .lit (.string ⟨#[]⟩) :: .lit (.string ⟨#[119, 101, 98]⟩) :: .lit (.string ⟨#[]⟩) :: [])
  | 1 => some (.lit (.string ⟨#[]⟩) :: .lit (.int .i64 0) :: .lit (.int .i64 0) :: .lit (.int .i64 0) :: .lit (.string ⟨#[]⟩) :: .lit (.int .i64 0) :: .lit (.int .i64 0) :: .lit (.int .i64 0) :: .lit (.string ⟨#[]⟩) :: .lit (.int .i64 0) :: .lit (.int .i64 0) :: .lit (.int .i64 0) :: .lit (.string ⟨#[110, 101, 103]⟩) :: .lit (.int .i64 1) :: .lit (.int .i64 1) :: .lit (.int .i64 1) :: .lit (.string ⟨#[110, 111, 116]⟩) :: .lit (.int .i64 1) :: .lit (.int .i64 2) :: .lit (.int .i64 2) :: .lit (.string ⟨#[97, 100, 100]⟩) :: .lit (.int .i64 2) :: .lit (.int .i64 1) :: .lit (.int .i64 1) :: .lit (.string ⟨#[115, 117, 98]⟩) :: .lit (.int .i64 2) :: .lit (.int .i64 1) :: .lit (.int .i64 1) :: .lit (.string ⟨#[109, 117, 108]⟩) :: .lit (.int .i64 2) :: .lit (.int .i64 1) :: .lit (.int .i64 1) :: .lit (.string ⟨#[100, 105, 118]⟩) :: .lit (.int .i64 2) :: .lit (.int .i64 1) :: .lit (.int .i64 1) :: .lit (.string ⟨#[109, 111, 100]⟩) :: .lit (.int .i64 2) :: .lit (.int .i64 1) :: .lit (.int .i64 1) :: .lit (.string ⟨#[101, 113]⟩) :: .lit (.int .i64 2) :: .lit (.int .i64 1) :: .lit (.int .i64 2) :: .lit (.string ⟨#[108, 116]⟩) :: .lit (.int .i64 2) :: .lit (.int .i64 1) :: .lit (.int .i64 2) :: .lit (.string ⟨#[108, 101]⟩) :: .lit (.int .i64 2) :: .lit (.int .i64 1) :: .lit (.int .i64 2) :: .lit (.string ⟨#[97, 110, 100]⟩) :: .lit (.int .i64 2) :: .lit (.int .i64 2) :: .lit (.int .i64 2) :: .lit (.string ⟨#[111, 114]⟩) :: .lit (.int .i64 2) :: .lit (.int .i64 2) :: .lit (.int .i64 2) :: [])
  | _ => none

def cmpT (t : Nat) : Bool := t == 69 || t == 70 || t == 77
def cmpAT (t : Nat) : Bool := t == 86
def mapTT (t : Nat) : Option Nat := none
def homeT (t : Nat) : Bool := false
def ptrTT (t : Nat) : Bool := false
def unsPT (t : Nat) : Bool := t == 151
def bytePT (t : Nat) : Bool := t == 146
def unsToT (T t : Nat) : Option Nat := none
def hookT (g : Nat) : Option Hook := if g = 40 then some .sort else if g = 21 then some .compact else none

noncomputable def cfg : Cfg := { fn := fnT, ti := tiT, glob := glT, cx := cxT, cmp := cmpT, cmpA := cmpAT, mapT := mapTT, home := homeT, ptrT := ptrTT, unsP := unsPT, unsTo := unsToT, hook := hookT, byteT := 5, byteP := bytePT }

theorem hookC (g : Nat) : cfg.hook g = (if g = 40 then some .sort else if g = 21 then some .compact else none) := rfl
theorem byteTC : cfg.byteT = 5 := rfl
theorem bytePC (t : Nat) : cfg.byteP t = (t == 146) := rfl
theorem homeC (t : Nat) : cfg.home t = (false) := rfl
theorem ptrTC (t : Nat) : cfg.ptrT t = (false) := rfl
theorem unsPC (t : Nat) : cfg.unsP t = (t == 151) := rfl
theorem unsToC (T t : Nat) : cfg.unsTo T t = (none) := rfl
theorem cmpC (t : Nat) : cfg.cmp t = (t == 69 || t == 70 || t == 77) := rfl
theorem cmpAC (t : Nat) : cfg.cmpA t = (t == 86) := rfl
theorem mapTC (t : Nat) : cfg.mapT t = (none) := rfl
-- ok: {"cmpA": [86], "mapT": [], "mapK": {}, "cmp": [69, 70, 77], "home": [], "ptr": [], "uns": [151], "byte": 5, "byteP": [146], "unsTo": [], "hook": {"21": ".compact", "40": ".sort"}}
theorem cx3 : cfg.cx 3 = { pol := [], segs := [], live := [], mix := [] } := rfl
theorem cx5 : cfg.cx 5 = { pol := [], segs := [], live := [(5, [1, 3, 21, 22, 23], [1, 2, 3]), (11, [3, 33, 34, 35], [2])], mix := [] } := rfl
theorem cx6 : cfg.cx 6 = { pol := [], segs := [], live := [(5, [1, 2, 39, 40, 41], [6])], mix := [] } := rfl
theorem cx7 : cfg.cx 7 = { pol := [], segs := [], live := [], mix := [] } := rfl
theorem cx8 : cfg.cx 8 = { pol := [], segs := [], live := [], mix := [] } := rfl
theorem cx9 : cfg.cx 9 = { pol := [], segs := [], live := [], mix := [] } := rfl
theorem cx10 : cfg.cx 10 = { pol := [], segs := [], live := [], mix := [] } := rfl
theorem cx12 : cfg.cx 12 = { pol := [], segs := [], live := [], mix := [] } := rfl
theorem cx13 : cfg.cx 13 = { pol := [], segs := [], live := [(3, [3, 8, 9, 10], [3])], mix := [] } := rfl
theorem cx14 : cfg.cx 14 = { pol := [], segs := [(5, [5, 1, 1, 1])], live := [(3, [1, 2, 3, 16, 17, 18], [1, 2, 3]), (8, [2, 3, 31, 32, 33], [2, 3])], mix := [] } := rfl
theorem cx16 : cfg.cx 16 = { pol := [], segs := [], live := [(5, [1, 2, 33, 34, 35], [6])], mix := [] } := rfl
theorem cx17 : cfg.cx 17 = { pol := [], segs := [(3, [9, 1])], live := [], mix := [] } := rfl
theorem cx18 : cfg.cx 18 = { pol := [], segs := [], live := [], mix := [] } := rfl
theorem cx19 : cfg.cx 19 = { pol := [], segs := [], live := [], mix := [] } := rfl
theorem cx20 : cfg.cx 20 = { pol := [], segs := [], live := [], mix := [] } := rfl
theorem cx22 : cfg.cx 22 = { pol := [], segs := [], live := [], mix := [] } := rfl
theorem cx23 : cfg.cx 23 = { pol := [], segs := [], live := [], mix := [] } := rfl
theorem cx24 : cfg.cx 24 = { pol := [], segs := [(24, [16, 1, 1])], live := [(16, [1, 3, 54, 55, 56], [1, 3]), (22, [3, 70, 71, 72], [3])], mix := [] } := rfl
theorem cx25 : cfg.cx 25 = { pol := [], segs := [(6, [8, 1])], live := [(4, [0, 1, 12, 13], [4])], mix := [] } := rfl
theorem cx26 : cfg.cx 26 = { pol := [], segs := [], live := [(4, [1, 2, 15, 16, 17], [6])], mix := [] } := rfl
theorem cx29 : cfg.cx 29 = { pol := [], segs := [], live := [], mix := [] } := rfl
theorem cx30 : cfg.cx 30 = { pol := [], segs := [], live := [(3, [1, 10, 11, 12], [])], mix := [] } := rfl
theorem cx31 : cfg.cx 31 = { pol := [], segs := [], live := [], mix := [] } := rfl
theorem cx33 : cfg.cx 33 = { pol := [], segs := [(12, [10, 1, 1])], live := [], mix := [] } := rfl
theorem cx34 : cfg.cx 34 = { pol := [], segs := [], live := [(3, [3, 7, 8, 9], [3])], mix := [] } := rfl
theorem cx35 : cfg.cx 35 = { pol := [], segs := [], live := [], mix := [] } := rfl
theorem cx36 : cfg.cx 36 = { pol := [], segs := [], live := [], mix := [] } := rfl
theorem cx37 : cfg.cx 37 = { pol := [], segs := [], live := [], mix := [] } := rfl
theorem cx38 : cfg.cx 38 = { pol := [], segs := [(11, [8, 1, 1])], live := [(9, [1, 2, 3, 19, 20, 21], [2, 3])], mix := [] } := rfl
theorem cx39 : cfg.cx 39 = { pol := [], segs := [], live := [], mix := [] } := rfl
theorem cx41 : cfg.cx 41 = { pol := [], segs := [], live := [(3, [1, 27, 28, 29], [])], mix := [] } := rfl
theorem cx42 : cfg.cx 42 = { pol := [], segs := [], live := [], mix := [] } := rfl
theorem cx44 : cfg.cx 44 = { pol := [], segs := [], live := [(2, [0, 1, 7, 8], [4])], mix := [] } := rfl
theorem cx45 : cfg.cx 45 = { pol := [], segs := [], live := [(3, [0, 2, 7, 9, 10], [7])], mix := [] } := rfl
theorem cx46 : cfg.cx 46 = { pol := [], segs := [], live := [], mix := [] } := rfl
theorem cx47 : cfg.cx 47 = { pol := [], segs := [], live := [], mix := [] } := rfl
theorem cx48 : cfg.cx 48 = { pol := [], segs := [(1, [6, 1, 1, 1])], live := [], mix := [] } := rfl
theorem cx49 : cfg.cx 49 = { pol := [], segs := [], live := [], mix := [] } := rfl
theorem cx50 : cfg.cx 50 = { pol := [], segs := [(1, [6, 1, 1])], live := [], mix := [] } := rfl
theorem cx51 : cfg.cx 51 = { pol := [(5, 1, .take), (16, 1, .copy)], segs := [], live := [(3, [2, 3, 7, 8], [7]), (9, [2, 3, 7, 8, 9, 34, 35, 36], [2, 3, 7, 8])], mix := [] } := rfl
theorem cx52 : cfg.cx 52 = { pol := [], segs := [], live := [], mix := [] } := rfl
theorem cx53 : cfg.cx 53 = { pol := [], segs := [], live := [], mix := [] } := rfl
theorem cx54 : cfg.cx 54 = { pol := [], segs := [], live := [], mix := [] } := rfl
theorem cx55 : cfg.cx 55 = { pol := [], segs := [], live := [], mix := [] } := rfl
theorem cx56 : cfg.cx 56 = { pol := [], segs := [], live := [], mix := [] } := rfl
theorem cx57 : cfg.cx 57 = { pol := [], segs := [], live := [(3, [2, 3, 5, 6, 10, 11, 12], [3, 4, 5, 6])], mix := [] } := rfl
theorem cx58 : cfg.cx 58 = { pol := [], segs := [], live := [(2, [0, 1, 7, 8], [4])], mix := [] } := rfl
theorem cx59 : cfg.cx 59 = { pol := [(8, 1, .copy)], segs := [], live := [(3, [1, 5, 9, 10, 11], [5])], mix := [] } := rfl
theorem cx60 : cfg.cx 60 = { pol := [], segs := [], live := [], mix := [] } := rfl
theorem cx63 : cfg.cx 63 = { pol := [], segs := [], live := [], mix := [] } := rfl
theorem cx64 : cfg.cx 64 = { pol := [], segs := [], live := [], mix := [] } := rfl
theorem cx65 : cfg.cx 65 = { pol := [], segs := [], live := [], mix := [] } := rfl
theorem cx66 : cfg.cx 66 = { pol := [], segs := [], live := [], mix := [] } := rfl
theorem cx67 : cfg.cx 67 = { pol := [], segs := [(2, [11, 1]), (10, [1, 1, 8, 1, 1, 1, 1, 1, 1])], live := [(6, [2, 5, 6, 7, 8, 9, 26, 27, 28], [5, 6, 7, 8, 9])], mix := [] } := rfl
theorem cx68 : cfg.cx 68 = { pol := [], segs := [], live := [(2, [0, 1, 7, 8], [4])], mix := [] } := rfl
theorem cx69 : cfg.cx 69 = { pol := [], segs := [], live := [], mix := [] } := rfl
theorem cx70 : cfg.cx 70 = { pol := [], segs := [], live := [], mix := [] } := rfl
theorem cx82 : cfg.cx 82 = { pol := [], segs := [], live := [], mix := [] } := rfl
theorem cx83 : cfg.cx 83 = { pol := [], segs := [], live := [], mix := [] } := rfl
theorem cx90 : cfg.cx 90 = { pol := [], segs := [], live := [], mix := [] } := rfl
theorem cx91 : cfg.cx 91 = { pol := [], segs := [], live := [], mix := [] } := rfl
theorem cx92 : cfg.cx 92 = { pol := [], segs := [], live := [], mix := [] } := rfl
theorem cx94 : cfg.cx 94 = { pol := [], segs := [], live := [], mix := [] } := rfl
theorem cx95 : cfg.cx 95 = { pol := [], segs := [(5, [1, 1, 1, 1, 1, 1, 1, 1, 1, 1, 1, 1, 1, 1, 8, 1, 1, 1])], live := [], mix := [] } := rfl
theorem cx96 : cfg.cx 96 = { pol := [], segs := [], live := [], mix := [] } := rfl
theorem cx97 : cfg.cx 97 = { pol := [], segs := [(1, [4, 1, 1])], live := [], mix := [] } := rfl
theorem cx98 : cfg.cx 98 = { pol := [], segs := [], live := [], mix := [] } := rfl
theorem cx99 : cfg.cx 99 = { pol := [], segs := [], live := [], mix := [] } := rfl
theorem cx100 : cfg.cx 100 = { pol := [], segs := [], live := [(2, [0, 1, 7, 8], [4])], mix := [] } := rfl
theorem fn3 : cfg.fn 3 = some Tryd.f3 := rfl
theorem fn5 : cfg.fn 5 = some Tryd.f5 := rfl
theorem fn6 : cfg.fn 6 = some Tryd.f6 := rfl
theorem fn7 : cfg.fn 7 = some Tryd.f7 := rfl
theorem fn8 : cfg.fn 8 = some Tryd.f8 := rfl
theorem fn9 : cfg.fn 9 = some Tryd.f9 := rfl
theorem fn10 : cfg.fn 10 = some Tryd.f10 := rfl
theorem fn12 : cfg.fn 12 = some Tryd.f12 := rfl
theorem fn13 : cfg.fn 13 = some Tryd.f13 := rfl
theorem fn14 : cfg.fn 14 = some Tryd.f14 := rfl
theorem fn16 : cfg.fn 16 = some Tryd.f16 := rfl
theorem fn17 : cfg.fn 17 = some Tryd.f17 := rfl
theorem fn18 : cfg.fn 18 = some Tryd.f18 := rfl
theorem fn19 : cfg.fn 19 = some Tryd.f19 := rfl
theorem fn20 : cfg.fn 20 = some Tryd.f20 := rfl
theorem fn22 : cfg.fn 22 = some Tryd.f22 := rfl
theorem fn23 : cfg.fn 23 = some Tryd.f23 := rfl
theorem fn24 : cfg.fn 24 = some Tryd.f24 := rfl
theorem fn25 : cfg.fn 25 = some Tryd.f25 := rfl
theorem fn26 : cfg.fn 26 = some Tryd.f26 := rfl
theorem fn29 : cfg.fn 29 = some Tryd.f29 := rfl
theorem fn30 : cfg.fn 30 = some Tryd.f30 := rfl
theorem fn31 : cfg.fn 31 = some Tryd.f31 := rfl
theorem fn33 : cfg.fn 33 = some Tryd.f33 := rfl
theorem fn34 : cfg.fn 34 = some Tryd.f34 := rfl
theorem fn35 : cfg.fn 35 = some Tryd.f35 := rfl
theorem fn36 : cfg.fn 36 = some Tryd.f36 := rfl
theorem fn37 : cfg.fn 37 = some Tryd.f37 := rfl
theorem fn38 : cfg.fn 38 = some Tryd.f38 := rfl
theorem fn39 : cfg.fn 39 = some Tryd.f39 := rfl
theorem fn41 : cfg.fn 41 = some Tryd.f41 := rfl
theorem fn42 : cfg.fn 42 = some Tryd.f42 := rfl
theorem fn44 : cfg.fn 44 = some Tryd.f44 := rfl
theorem fn45 : cfg.fn 45 = some Tryd.f45 := rfl
theorem fn46 : cfg.fn 46 = some Tryd.f46 := rfl
theorem fn47 : cfg.fn 47 = some Tryd.f47 := rfl
theorem fn48 : cfg.fn 48 = some Tryd.f48 := rfl
theorem fn49 : cfg.fn 49 = some Tryd.f49 := rfl
theorem fn50 : cfg.fn 50 = some Tryd.f50 := rfl
theorem fn51 : cfg.fn 51 = some Tryd.f51 := rfl
theorem fn52 : cfg.fn 52 = some Tryd.f52 := rfl
theorem fn53 : cfg.fn 53 = some Tryd.f53 := rfl
theorem fn54 : cfg.fn 54 = some Tryd.f54 := rfl
theorem fn55 : cfg.fn 55 = some Tryd.f55 := rfl
theorem fn56 : cfg.fn 56 = some Tryd.f56 := rfl
theorem fn57 : cfg.fn 57 = some Tryd.f57 := rfl
theorem fn58 : cfg.fn 58 = some Tryd.f58 := rfl
theorem fn59 : cfg.fn 59 = some Tryd.f59 := rfl
theorem fn60 : cfg.fn 60 = some Tryd.f60 := rfl
theorem fn63 : cfg.fn 63 = some Tryd.f63 := rfl
theorem fn64 : cfg.fn 64 = some Tryd.f64 := rfl
theorem fn65 : cfg.fn 65 = some Tryd.f65 := rfl
theorem fn66 : cfg.fn 66 = some Tryd.f66 := rfl
theorem fn67 : cfg.fn 67 = some Tryd.f67 := rfl
theorem fn68 : cfg.fn 68 = some Tryd.f68 := rfl
theorem fn69 : cfg.fn 69 = some Tryd.f69 := rfl
theorem fn70 : cfg.fn 70 = some Tryd.f70 := rfl
theorem fn82 : cfg.fn 82 = some Tryd.f82 := rfl
theorem fn83 : cfg.fn 83 = some Tryd.f83 := rfl
theorem fn90 : cfg.fn 90 = some Tryd.f90 := rfl
theorem fn91 : cfg.fn 91 = some Tryd.f91 := rfl
theorem fn92 : cfg.fn 92 = some Tryd.f92 := rfl
theorem fn94 : cfg.fn 94 = some Tryd.f94 := rfl
theorem fn95 : cfg.fn 95 = some Tryd.f95 := rfl
theorem fn96 : cfg.fn 96 = some Tryd.f96 := rfl
theorem fn97 : cfg.fn 97 = some Tryd.f97 := rfl
theorem fn98 : cfg.fn 98 = some Tryd.f98 := rfl
theorem fn99 : cfg.fn 99 = some Tryd.f99 := rfl
theorem fn100 : cfg.fn 100 = some Tryd.f100 := rfl
theorem ti3 : cfg.ti 3 = some { size := 1, bytes := 8, zero := [.lit (.int .i64 0)], kind := .int .i64 } := rfl
theorem ti4 : cfg.ti 4 = some { size := 1, bytes := 1, zero := [.lit (.bool false)], kind := .bool } := rfl
theorem ti9 : cfg.ti 9 = some { size := 1, bytes := 16, zero := [.lit (.string ⟨#[]⟩)], kind := .str } := rfl
theorem ti21 : cfg.ti 21 = some { size := 1, bytes := 4, zero := [.lit (.int .i32 0)], kind := .int .i32 } := rfl
theorem ti22 : cfg.ti 22 = some { size := 1, bytes := 24, zero := [.nil], kind := .slice 57 } := rfl
theorem ti23 : cfg.ti 23 = some { size := 1, bytes := 24, zero := [.nil], kind := .slice 60 } := rfl
theorem ti25 : cfg.ti 25 = some { size := 2, bytes := 48, zero := [.nil, .nil], kind := .struct [(0, 22), (1, 23)] } := rfl
theorem ti26 : cfg.ti 26 = some { size := 1, bytes := 24, zero := [.nil], kind := .slice 29 } := rfl
theorem ti27 : cfg.ti 27 = some { size := 1, bytes := 24, zero := [.nil], kind := .slice 70 } := rfl
theorem ti29 : cfg.ti 29 = some { size := 5, bytes := 72, zero := [.lit (.int .i64 0), .lit (.int .i64 0), .lit (.int .i64 0), .nil, .nil], kind := .struct [(0, 3), (1, 3), (2, 3), (3, 26), (4, 27)] } := rfl
theorem ti34 : cfg.ti 34 = some { size := 1, bytes := 8, zero := [.lit (.int .i64 0)], kind := .struct [(0, 3)] } := rfl
theorem ti42 : cfg.ti 42 = some { size := 1, bytes := 24, zero := [.nil], kind := .slice 3 } := rfl
theorem ti47 : cfg.ti 47 = some { size := 1, bytes := 24, zero := [.nil], kind := .slice 50 } := rfl
theorem ti48 : cfg.ti 48 = some { size := 1, bytes := 24, zero := [.nil], kind := .slice 77 } := rfl
theorem ti50 : cfg.ti 50 = some { size := 5, bytes := 72, zero := [.lit (.int .i64 0), .lit (.int .i64 0), .lit (.int .i64 0), .nil, .nil], kind := .struct [(0, 3), (1, 3), (2, 3), (3, 47), (4, 48)] } := rfl
theorem ti53 : cfg.ti 53 = some { size := 1, bytes := 24, zero := [.nil], kind := .slice 55 } := rfl
theorem ti55 : cfg.ti 55 = some { size := 3, bytes := 40, zero := [.lit (.int .i64 0), .lit (.int .i64 0), .nil], kind := .struct [(0, 3), (1, 3), (2, 53)] } := rfl
theorem ti57 : cfg.ti 57 = some { size := 5, bytes := 56, zero := [.lit (.int .i64 0), .lit (.int .i64 0), .lit (.int .i64 0), .lit (.int .i64 0), .nil], kind := .struct [(0, 3), (1, 3), (2, 55)] } := rfl
theorem ti60 : cfg.ti 60 = some { size := 6, bytes := 64, zero := [.lit (.int .i64 0), .lit (.int .i64 0), .lit (.bool false), .lit (.int .i64 0), .lit (.int .i64 0), .nil], kind := .struct [(0, 3), (1, 3), (2, 4), (3, 55)] } := rfl
theorem ti70 : cfg.ti 70 = some { size := 3, bytes := 24, zero := [.lit (.int .i64 0), .lit (.int .i64 0), .lit (.int .i64 0)], kind := .struct [(0, 3), (1, 3), (2, 3)] } := rfl
theorem ti77 : cfg.ti 77 = some { size := 3, bytes := 24, zero := [.lit (.int .i64 0), .lit (.int .i64 0), .lit (.int .i64 0)], kind := .struct [(0, 3), (1, 3), (2, 3)] } := rfl
theorem ti79 : cfg.ti 79 = some { size := 1, bytes := 24, zero := [.nil], kind := .slice 82 } := rfl
theorem ti82 : cfg.ti 82 = some { size := 2, bytes := 16, zero := [.lit (.int .i64 0), .lit (.int .i64 0)], kind := .struct [(0, 3), (1, 3)] } := rfl
theorem ti86 : cfg.ti 86 = some { size := 11, bytes := 176, zero := [.lit (.string ⟨#[]⟩), .lit (.string ⟨#[]⟩), .lit (.string ⟨#[]⟩), .lit (.string ⟨#[]⟩), .lit (.string ⟨#[]⟩), .lit (.string ⟨#[]⟩), .lit (.string ⟨#[]⟩), .lit (.string ⟨#[]⟩), .lit (.string ⟨#[]⟩), .lit (.string ⟨#[]⟩), .lit (.string ⟨#[]⟩)], kind := .array 11 9 } := rfl
theorem ti92 : cfg.ti 92 = some { size := 1, bytes := 24, zero := [.nil], kind := .slice 4 } := rfl
theorem ti132 : cfg.ti 132 = some { size := 4, bytes := 40, zero := [.lit (.string ⟨#[]⟩), .lit (.int .i64 0), .lit (.int .i64 0), .lit (.int .i64 0)], kind := .struct [(0, 9), (1, 3), (2, 3), (3, 3)] } := rfl
theorem ti133 : cfg.ti 133 = some { size := 60, bytes := 600, zero := [.lit (.string ⟨#[]⟩), .lit (.int .i64 0), .lit (.int .i64 0), .lit (.int .i64 0), .lit (.string ⟨#[]⟩), .lit (.int .i64 0), .lit (.int .i64 0), .lit (.int .i64 0), .lit (.string ⟨#[]⟩), .lit (.int .i64 0), .lit (.int .i64 0), .lit (.int .i64 0), .lit (.string ⟨#[]⟩), .lit (.int .i64 0), .lit (.int .i64 0), .lit (.int .i64 0), .lit (.string ⟨#[]⟩), .lit (.int .i64 0), .lit (.int .i64 0), .lit (.int .i64 0), .lit (.string ⟨#[]⟩), .lit (.int .i64 0), .lit (.int .i64 0), .lit (.int .i64 0), .lit (.string ⟨#[]⟩), .lit (.int .i64 0), .lit (.int .i64 0), .lit (.int .i64 0), .lit (.string ⟨#[]⟩), .lit (.int .i64 0), .lit (.int .i64 0), .lit (.int .i64 0), .lit (.string ⟨#[]⟩), .lit (.int .i64 0), .lit (.int .i64 0), .lit (.int .i64 0), .lit (.string ⟨#[]⟩), .lit (.int .i64 0), .lit (.int .i64 0), .lit (.int .i64 0), .lit (.string ⟨#[]⟩), .lit (.int .i64 0), .lit (.int .i64 0), .lit (.int .i64 0), .lit (.string ⟨#[]⟩), .lit (.int .i64 0), .lit (.int .i64 0), .lit (.int .i64 0), .lit (.string ⟨#[]⟩), .lit (.int .i64 0), .lit (.int .i64 0), .lit (.int .i64 0), .lit (.string ⟨#[]⟩), .lit (.int .i64 0), .lit (.int .i64 0), .lit (.int .i64 0), .lit (.string ⟨#[]⟩), .lit (.int .i64 0), .lit (.int .i64 0), .lit (.int .i64 0)], kind := .array 15 132 } := rfl
theorem gl0 : cfg.glob 0 = some (.lit (.string ⟨#[]⟩) :: .lit (.string ⟨#[]⟩) :: .lit (.string ⟨#[]⟩) :: .lit (.string ⟨#[115, 101, 113]⟩) :: .lit (.string ⟨#[112, 97, 114]⟩) :: .lit (.string ⟨#[97, 108, 116]⟩) :: .lit (.string ⟨#[112, 105, 99, 107]⟩) :: .lit (.string ⟨#[108, 111, 111, 112]⟩) :: .lit (.string ⟨#[]⟩) :: .lit (.string ⟨#[119, 101, 98]⟩) :: .lit (.string ⟨#[]⟩) :: []) := rfl
end Go.Proofs.YtifckjhggamefaaDoor
