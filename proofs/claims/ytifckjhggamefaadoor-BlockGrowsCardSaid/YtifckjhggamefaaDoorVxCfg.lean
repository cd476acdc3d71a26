/- The abstract interpreter's table for this seat: bodies, types, tables, policies. Written by a program (vxgen.py). -/
import Derived.Test.YtifckjhggamefaaDoorProg
import Derived.Test.YtifckjhggamefaaDoorVa
import Derived.Test.YtifckjhggamefaaDoorVg
set_option linter.unusedSimpArgs false
set_option linter.unusedVariables false
set_option linter.unusedSectionVars false
namespace Go.Proofs.YtifckjhggamefaaDoor
open Go Go.Vx
noncomputable def fnT : Nat -> Option Func
 | 4 => some Tryd.f4
 | 5 => some Tryd.f5
 | 6 => some Tryd.f6
 | 7 => some Tryd.f7
 | 8 => some Tryd.f8
 | 9 => some Tryd.f9
 | 10 => some Tryd.f10
 | 11 => some Tryd.f11
 | 12 => some Tryd.f12
 | 13 => some Tryd.f13
 | 14 => some Tryd.f14
 | 15 => some Tryd.f15
 | 16 => some Tryd.f16
 | 17 => some Tryd.f17
 | 18 => some Tryd.f18
 | 19 => some Tryd.f19
 | 20 => some Tryd.f20
 | 21 => some Tryd.f21
 | 22 => some Tryd.f22
 | 23 => some Tryd.f23
 | 24 => some Tryd.f24
 | 25 => some Tryd.f25
 | 26 => some Tryd.f26
 | 27 => some Tryd.f27
 | 28 => some Tryd.f28
 | 29 => some Tryd.f29
 | 30 => some Tryd.f30
 | 31 => some Tryd.f31
 | 32 => some Tryd.f32
 | 33 => some Tryd.f33
 | 34 => some Tryd.f34
 | 35 => some Tryd.f35
 | 36 => some Tryd.f36
 | 37 => some Tryd.f37
 | 38 => some Tryd.f38
 | 39 => some Tryd.f39
 | 40 => some Tryd.f40
 | 41 => some Tryd.f41
 | 42 => some Tryd.f42
 | 44 => some Tryd.f44
 | 45 => some Tryd.f45
 | 46 => some Tryd.f46
 | 47 => some Tryd.f47
 | 48 => some Tryd.f48
 | 49 => some Tryd.f49
 | 50 => some Tryd.f50
 | 51 => some Tryd.f51
 | 52 => some Tryd.f52
 | 53 => some Tryd.f53
 | 54 => some Tryd.f54
 | 55 => some Tryd.f55
 | 56 => some Tryd.f56
 | 57 => some Tryd.f57
 | 58 => some Tryd.f58
 | 59 => some Tryd.f59
 | 60 => some Tryd.f60
 | 63 => some Tryd.f63
 | 64 => some Tryd.f64
 | 65 => some Tryd.f65
 | 66 => some Tryd.f66
 | 67 => some Tryd.f67
 | 68 => some Tryd.f68
 | 69 => some Tryd.f69
 | 70 => some Tryd.f70
 | 82 => some Tryd.f82
 | 83 => some Tryd.f83
 | 90 => some Tryd.f90
 | 91 => some Tryd.f91
 | 92 => some Tryd.f92
 | 94 => some Tryd.f94
 | 95 => some Tryd.f95
 | 96 => some Tryd.f96
 | 97 => some Tryd.f97
 | 98 => some Tryd.f98
 | 99 => some Tryd.f99
 | 100 => some Tryd.f100
 | _ => none
def tiT : Nat -> Option TI
 | 2 => some { size := 1, bytes := 8, zero := [.lit (.int .i64 0)], kind := .int .i64 }
 | 3 => some { size := 1, bytes := 8, zero := [.lit (.int .i64 0)], kind := .int .i64 }
 | 4 => some { size := 1, bytes := 1, zero := [.lit (.bool false)], kind := .bool }
 | 5 => some { size := 1, bytes := 1, zero := [.lit (.int .u8 0)], kind := .int .u8 }
 | 6 => some { size := 1, bytes := 1, zero := [.lit (.int .u8 0)], kind := .int .u8 }
 | 7 => some { size := 4, bytes := 24, zero := [.lit (.int .i64 0), .lit (.int .i64 0), .lit (.bool false), .lit (.int .u8 0)], kind := .struct [(0, 2), (1, 3), (2, 4), (3, 6)] }
 | 8 => some { size := 4, bytes := 24, zero := [.lit (.int .i64 0), .lit (.int .i64 0), .lit (.bool false), .lit (.int .u8 0)], kind := .struct [(0, 2), (1, 3), (2, 4), (3, 6)] }
 | 9 => some { size := 1, bytes := 16, zero := [.lit (.string ⟨#[]⟩)], kind := .str }
 | 10 => some { size := 1, bytes := 16, zero := [.lit (.string ⟨#[]⟩)], kind := .str }
 | 11 => some { size := 1, bytes := 16, zero := [.lit (.string ⟨#[]⟩)], kind := .str }
 | 12 => some { size := 1, bytes := 8, zero := [.lit (.int .u64 0)], kind := .int .u64 }
 | 13 => some { size := 2, bytes := 24, zero := [.lit (.string ⟨#[]⟩), .lit (.int .u64 0)], kind := .struct [(0, 9), (1, 12)] }
 | 14 => some { size := 2, bytes := 24, zero := [.lit (.string ⟨#[]⟩), .lit (.int .u64 0)], kind := .struct [(0, 9), (1, 12)] }
 | 15 => some { size := 1, bytes := 8, zero := [.lit (.pointer none)], kind := .other }
 | 16 => some { size := 1, bytes := 8, zero := [.lit (.pointer none)], kind := .other }
 | 17 => some { size := 1, bytes := 8, zero := [.lit (.pointer none)], kind := .other }
 | 18 => some { size := 1, bytes := 8, zero := [.lit (.pointer none)], kind := .struct [(0, 17)] }
 | 19 => some { size := 1, bytes := 8, zero := [.lit (.pointer none)], kind := .struct [(0, 17)] }
 | 21 => some { size := 1, bytes := 4, zero := [.lit (.int .i32 0)], kind := .int .i32 }
 | 22 => some { size := 1, bytes := 24, zero := [.nil], kind := .slice 57 }
 | 23 => some { size := 1, bytes := 24, zero := [.nil], kind := .slice 60 }
 | 24 => some { size := 2, bytes := 48, zero := [.nil, .nil], kind := .struct [(0, 22), (1, 23)] }
 | 25 => some { size := 2, bytes := 48, zero := [.nil, .nil], kind := .struct [(0, 22), (1, 23)] }
 | 26 => some { size := 1, bytes := 24, zero := [.nil], kind := .slice 29 }
 | 27 => some { size := 1, bytes := 24, zero := [.nil], kind := .slice 70 }
 | 28 => some { size := 5, bytes := 72, zero := [.lit (.int .i64 0), .lit (.int .i64 0), .lit (.int .i64 0), .nil, .nil], kind := .struct [(0, 3), (1, 3), (2, 3), (3, 26), (4, 27)] }
 | 29 => some { size := 5, bytes := 72, zero := [.lit (.int .i64 0), .lit (.int .i64 0), .lit (.int .i64 0), .nil, .nil], kind := .struct [(0, 3), (1, 3), (2, 3), (3, 26), (4, 27)] }
 | 32 => some { size := 1, bytes := 8, zero := [.lit (.pointer none)], kind := .other }
 | 33 => some { size := 1, bytes := 8, zero := [.lit (.int .i64 0)], kind := .struct [(0, 3)] }
 | 34 => some { size := 1, bytes := 8, zero := [.lit (.int .i64 0)], kind := .struct [(0, 3)] }
 | 36 => some { size := 1, bytes := 8, zero := [.lit (.int .i64 0)], kind := .int .i64 }
 | 42 => some { size := 1, bytes := 24, zero := [.nil], kind := .slice 3 }
 | 47 => some { size := 1, bytes := 24, zero := [.nil], kind := .slice 50 }
 | 48 => some { size := 1, bytes := 24, zero := [.nil], kind := .slice 77 }
 | 49 => some { size := 5, bytes := 72, zero := [.lit (.int .i64 0), .lit (.int .i64 0), .lit (.int .i64 0), .nil, .nil], kind := .struct [(0, 3), (1, 3), (2, 3), (3, 47), (4, 48)] }
 | 50 => some { size := 5, bytes := 72, zero := [.lit (.int .i64 0), .lit (.int .i64 0), .lit (.int .i64 0), .nil, .nil], kind := .struct [(0, 3), (1, 3), (2, 3), (3, 47), (4, 48)] }
 | 53 => some { size := 1, bytes := 24, zero := [.nil], kind := .slice 55 }
 | 54 => some { size := 3, bytes := 40, zero := [.lit (.int .i64 0), .lit (.int .i64 0), .nil], kind := .struct [(0, 3), (1, 3), (2, 53)] }
 | 55 => some { size := 3, bytes := 40, zero := [.lit (.int .i64 0), .lit (.int .i64 0), .nil], kind := .struct [(0, 3), (1, 3), (2, 53)] }
 | 56 => some { size := 5, bytes := 56, zero := [.lit (.int .i64 0), .lit (.int .i64 0), .lit (.int .i64 0), .lit (.int .i64 0), .nil], kind := .struct [(0, 3), (1, 3), (2, 55)] }
 | 57 => some { size := 5, bytes := 56, zero := [.lit (.int .i64 0), .lit (.int .i64 0), .lit (.int .i64 0), .lit (.int .i64 0), .nil], kind := .struct [(0, 3), (1, 3), (2, 55)] }
 | 59 => some { size := 6, bytes := 64, zero := [.lit (.int .i64 0), .lit (.int .i64 0), .lit (.bool false), .lit (.int .i64 0), .lit (.int .i64 0), .nil], kind := .struct [(0, 3), (1, 3), (2, 4), (3, 55)] }
 | 60 => some { size := 6, bytes := 64, zero := [.lit (.int .i64 0), .lit (.int .i64 0), .lit (.bool false), .lit (.int .i64 0), .lit (.int .i64 0), .nil], kind := .struct [(0, 3), (1, 3), (2, 4), (3, 55)] }
 | 69 => some { size := 3, bytes := 24, zero := [.lit (.int .i64 0), .lit (.int .i64 0), .lit (.int .i64 0)], kind := .struct [(0, 3), (1, 3), (2, 3)] }
 | 70 => some { size := 3, bytes := 24, zero := [.lit (.int .i64 0), .lit (.int .i64 0), .lit (.int .i64 0)], kind := .struct [(0, 3), (1, 3), (2, 3)] }
 | 77 => some { size := 3, bytes := 24, zero := [.lit (.int .i64 0), .lit (.int .i64 0), .lit (.int .i64 0)], kind := .struct [(0, 3), (1, 3), (2, 3)] }
 | 79 => some { size := 1, bytes := 24, zero := [.nil], kind := .slice 82 }
 | 81 => some { size := 2, bytes := 16, zero := [.lit (.int .i64 0), .lit (.int .i64 0)], kind := .struct [(0, 3), (1, 3)] }
 | 82 => some { size := 2, bytes := 16, zero := [.lit (.int .i64 0), .lit (.int .i64 0)], kind := .struct [(0, 3), (1, 3)] }
 | 86 => some { size := 11, bytes := 176, zero := [.lit (.string ⟨#[]⟩), .lit (.string ⟨#[]⟩), .lit (.string ⟨#[]⟩), .lit (.string ⟨#[]⟩), .lit (.string ⟨#[]⟩), .lit (.string ⟨#[]⟩), .lit (.string ⟨#[]⟩), .lit (.string ⟨#[]⟩), .lit (.string ⟨#[]⟩), .lit (.string ⟨#[]⟩), .lit (.string ⟨#[]⟩)], kind := .array 11 9 }
 | 92 => some { size := 1, bytes := 24, zero := [.nil], kind := .slice 4 }
 | 101 => some { size := 1, bytes := 8, zero := [.lit (.int .u64 0)], kind := .int .u64 }
 | 107 => some { size := 1, bytes := 8, zero := [.lit (.int .i64 0)], kind := .int .i64 }
 | 116 => some { size := 1, bytes := 4, zero := [.lit (.int .u32 0)], kind := .int .u32 }
 | 118 => some { size := 1, bytes := 8, zero := [.lit (.int .u64 0)], kind := .int .u64 }
 | 121 => some { size := 1, bytes := 8, zero := [.lit (.int .u64 0)], kind := .int .u64 }
 | 125 => some { size := 1, bytes := 8, zero := [.lit (.pointer none)], kind := .other }
 | 129 => some { size := 1, bytes := 8, zero := [.lit (.pointer none)], kind := .other }
 | 131 => some { size := 4, bytes := 40, zero := [.lit (.string ⟨#[]⟩), .lit (.int .i64 0), .lit (.int .i64 0), .lit (.int .i64 0)], kind := .struct [(0, 9), (1, 3), (2, 3), (3, 3)] }
 | 132 => some { size := 4, bytes := 40, zero := [.lit (.string ⟨#[]⟩), .lit (.int .i64 0), .lit (.int .i64 0), .lit (.int .i64 0)], kind := .struct [(0, 9), (1, 3), (2, 3), (3, 3)] }
 | 133 => some { size := 60, bytes := 600, zero := [.lit (.string ⟨#[]⟩), .lit (.int .i64 0), .lit (.int .i64 0), .lit (.int .i64 0), .lit (.string ⟨#[]⟩), .lit (.int .i64 0), .lit (.int .i64 0), .lit (.int .i64 0), .lit (.string ⟨#[]⟩), .lit (.int .i64 0), .lit (.int .i64 0), .lit (.int .i64 0), .lit (.string ⟨#[]⟩), .lit (.int .i64 0), .lit (.int .i64 0), .lit (.int .i64 0), .lit (.string ⟨#[]⟩), .lit (.int .i64 0), .lit (.int .i64 0), .lit (.int .i64 0), .lit (.string ⟨#[]⟩), .lit (.int .i64 0), .lit (.int .i64 0), .lit (.int .i64 0), .lit (.string ⟨#[]⟩), .lit (.int .i64 0), .lit (.int .i64 0), .lit (.int .i64 0), .lit (.string ⟨#[]⟩), .lit (.int .i64 0), .lit (.int .i64 0), .lit (.int .i64 0), .lit (.string ⟨#[]⟩), .lit (.int .i64 0), .lit (.int .i64 0), .lit (.int .i64 0), .lit (.string ⟨#[]⟩), .lit (.int .i64 0), .lit (.int .i64 0), .lit (.int .i64 0), .lit (.string ⟨#[]⟩), .lit (.int .i64 0), .lit (.int .i64 0), .lit (.int .i64 0), .lit (.string ⟨#[]⟩), .lit (.int .i64 0), .lit (.int .i64 0), .lit (.int .i64 0), .lit (.string ⟨#[]⟩), .lit (.int .i64 0), .lit (.int .i64 0), .lit (.int .i64 0), .lit (.string ⟨#[]⟩), .lit (.int .i64 0), .lit (.int .i64 0), .lit (.int .i64 0), .lit (.string ⟨#[]⟩), .lit (.int .i64 0), .lit (.int .i64 0), .lit (.int .i64 0)], kind := .array 15 132 }
 | 137 => some { size := 4, bytes := 40, zero := [.lit (.pointer none), .lit (.pointer none), .lit (.pointer none), .lit (.string ⟨#[]⟩)], kind := .struct [(0, 17), (1, 17), (2, 17), (3, 9)] }
 | 138 => some { size := 4, bytes := 40, zero := [.lit (.pointer none), .lit (.pointer none), .lit (.pointer none), .lit (.string ⟨#[]⟩)], kind := .struct [(0, 17), (1, 17), (2, 17), (3, 9)] }
 | 139 => some { size := 0, bytes := 0, zero := [], kind := .array 0 16 }
 | 140 => some { size := 0, bytes := 0, zero := [], kind := .struct [(0, 139)] }
 | 141 => some { size := 0, bytes := 0, zero := [], kind := .struct [(0, 139)] }
 | 143 => some { size := 1, bytes := 1, zero := [.lit (.int .u8 0)], kind := .int .u8 }
 | 144 => some { size := 1, bytes := 1, zero := [.lit (.int .u8 0)], kind := .int .u8 }
 | 146 => some { size := 1, bytes := 8, zero := [.lit (.pointer none)], kind := .other }
 | 147 => some { size := 1, bytes := 4, zero := [.lit (.int .i32 0)], kind := .int .i32 }
 | 148 => some { size := 1, bytes := 4, zero := [.lit (.int .i32 0)], kind := .int .i32 }
 | _ => none
def cxT : Nat -> Cx
 | 4 => { segs := [(15, [1, 1, 4, 1, 1, 1, 4, 1, 1, 1, 1, 1])], live := [(13, [3, 4, 5, 7, 9, 12, 13, 14, 100, 101], [7, 9, 12, 13, 14])] }
 | 5 => { live := [(5, [1, 3, 21, 22, 23], [1, 2, 3]), (11, [3, 33, 34, 35], [2])] }
 | 6 => { live := [(5, [1, 2, 39, 40, 41], [6])] }
 | 7 => {}
 | 8 => {}
 | 9 => {}
 | 10 => {}
 | 11 => { pol := [(11, 3, .copy)], live := [(7, [2, 7, 23, 24], [2, 7])] }
 | 12 => {}
 | 13 => { live := [(3, [3, 8, 9, 10], [3])] }
 | 14 => { segs := [(5, [5, 1, 1, 1])], live := [(3, [1, 2, 3, 16, 17, 18], [1, 2, 3]), (8, [2, 3, 31, 32, 33], [2, 3])] }
 | 15 => { live := [(7, [2, 3, 4, 7, 37, 38, 39], [2, 3, 4, 7]), (13, [2, 3, 7, 55, 56, 57], [7])] }
 | 16 => { live := [(5, [1, 2, 33, 34, 35], [6])] }
 | 17 => { segs := [(3, [9, 1])] }
 | 18 => {}
 | 19 => {}
 | 20 => {}
 | 21 => { segs := [(6, [9, 1]), (11, [9, 1])], live := [(4, [0, 3], [0, 2]), (9, [0, 3, 4, 5], [0, 3])] }
 | 22 => {}
 | 23 => {}
 | 24 => { segs := [(24, [16, 1, 1])], live := [(16, [1, 3, 54, 55, 56], [1, 3]), (22, [3, 70, 71, 72], [3])] }
 | 25 => { segs := [(6, [8, 1])], live := [(4, [0, 1, 12, 13], [4])] }
 | 26 => { live := [(4, [1, 2, 15, 16, 17], [6])] }
 | 27 => { live := [(5, [0, 1, 5, 6], [0, 5])] }
 | 28 => {}
 | 29 => {}
 | 30 => { live := [(3, [1, 10, 11, 12], [])] }
 | 31 => {}
 | 32 => { pol := [(8, 1, .copy)], live := [(3, [1, 5, 9, 10, 11], [5])] }
 | 33 => { segs := [(12, [10, 1, 1])] }
 | 34 => { live := [(3, [3, 7, 8, 9], [3])] }
 | 35 => {}
 | 36 => {}
 | 37 => {}
 | 38 => { segs := [(11, [8, 1, 1])], live := [(9, [1, 2, 3, 19, 20, 21], [2, 3])] }
 | 39 => {}
 | 40 => {}
 | 41 => { live := [(3, [1, 27, 28, 29], [])] }
 | 42 => {}
 | 44 => { live := [(2, [0, 1, 7, 8], [4])] }
 | 45 => { live := [(3, [0, 2, 7, 9, 10], [7])] }
 | 46 => {}
 | 47 => {}
 | 48 => { segs := [(1, [6, 1, 1, 1])] }
 | 49 => {}
 | 50 => { segs := [(1, [6, 1, 1])] }
 | 51 => { pol := [(5, 1, .take), (16, 1, .copy)], live := [(3, [2, 3, 7, 8], [7]), (9, [2, 3, 7, 8, 9, 34, 35, 36], [2, 3, 7, 8])] }
 | 52 => {}
 | 53 => {}
 | 54 => {}
 | 55 => {}
 | 56 => {}
 | 57 => { live := [(3, [2, 3, 5, 6, 10, 11, 12], [3, 4, 5, 6])] }
 | 58 => { live := [(2, [0, 1, 7, 8], [4])] }
 | 59 => { pol := [(8, 1, .copy)], live := [(3, [1, 5, 9, 10, 11], [5])] }
 | 60 => {}
 | 63 => {}
 | 64 => {}
 | 65 => {}
 | 66 => {}
 | 67 => { segs := [(2, [11, 1]), (10, [1, 1, 8, 1, 1, 1, 1, 1, 1])], live := [(6, [2, 5, 6, 7, 8, 9, 26, 27, 28], [5, 6, 7, 8, 9])] }
 | 68 => { live := [(2, [0, 1, 7, 8], [4])] }
 | 69 => {}
 | 70 => {}
 | 82 => {}
 | 83 => {}
 | 90 => {}
 | 91 => {}
 | 92 => {}
 | 94 => {}
 | 95 => { segs := [(5, [1, 1, 1, 1, 1, 1, 1, 1, 1, 1, 1, 1, 1, 1, 8, 1, 1, 1])] }
 | 96 => {}
 | 97 => { segs := [(1, [4, 1, 1])] }
 | 98 => {}
 | 99 => {}
 | 100 => { live := [(2, [0, 1, 7, 8], [4])] }
 | _ => {}
def glT : Nat -> Option (List D)
 | 0 => some (.lit (.string ⟨#[]⟩) :: .lit (.string ⟨#[]⟩) :: .lit (.string ⟨#[]⟩) :: .lit (.string ⟨#[115, 101, 113]⟩) :: .lit (.string ⟨#[112, 97, 114]⟩) :: .lit (.string ⟨#[97, 108, 116]⟩) :: .lit (.string ⟨#[112, 105, 99, 107]⟩) :: .lit (.string ⟨#[108, 111, 111, 112]⟩) :: .lit (.string ⟨#[]⟩) :: .lit (.string ⟨#[119, 101, 98]⟩) :: .lit (.string ⟨#[]⟩) :: [])
 | 1 => some (.lit (.string ⟨#[]⟩) :: .lit (.int .i64 0) :: .lit (.int .i64 0) :: .lit (.int .i64 0) :: .lit (.string ⟨#[]⟩) :: .lit (.int .i64 0) :: .lit (.int .i64 0) :: .lit (.int .i64 0) :: .lit (.string ⟨#[]⟩) :: .lit (.int .i64 0) :: .lit (.int .i64 0) :: .lit (.int .i64 0) :: .lit (.string ⟨#[110, 101, 103]⟩) :: .lit (.int .i64 1) :: .lit (.int .i64 1) :: .lit (.int .i64 1) :: .lit (.string ⟨#[110, 111, 116]⟩) :: .lit (.int .i64 1) :: .lit (.int .i64 2) :: .lit (.int .i64 2) :: .lit (.string ⟨#[97, 100, 100]⟩) :: .lit (.int .i64 2) :: .lit (.int .i64 1) :: .lit (.int .i64 1) :: .lit (.string ⟨#[115, 117, 98]⟩) :: .lit (.int .i64 2) :: .lit (.int .i64 1) :: .lit (.int .i64 1) :: .lit (.string ⟨#[109, 117, 108]⟩) :: .lit (.int .i64 2) :: .lit (.int .i64 1) :: .lit (.int .i64 1) :: .lit (.string ⟨#[100, 105, 118]⟩) :: .lit (.int .i64 2) :: .lit (.int .i64 1) :: .lit (.int .i64 1) :: .lit (.string ⟨#[109, 111, 100]⟩) :: .lit (.int .i64 2) :: .lit (.int .i64 1) :: .lit (.int .i64 1) :: .lit (.string ⟨#[101, 113]⟩) :: .lit (.int .i64 2) :: .lit (.int .i64 1) :: .lit (.int .i64 2) :: .lit (.string ⟨#[108, 116]⟩) :: .lit (.int .i64 2) :: .lit (.int .i64 1) :: .lit (.int .i64 2) :: .lit (.string ⟨#[108, 101]⟩) :: .lit (.int .i64 2) :: .lit (.int .i64 1) :: .lit (.int .i64 2) :: .lit (.string ⟨#[97, 110, 100]⟩) :: .lit (.int .i64 2) :: .lit (.int .i64 2) :: .lit (.int .i64 2) :: .lit (.string ⟨#[111, 114]⟩) :: .lit (.int .i64 2) :: .lit (.int .i64 2) :: .lit (.int .i64 2) :: [])
 | _ => none
def cmpT (t : Nat) : Bool := t == 69 || t == 70 || t == 77
def hookT (g : Nat) : Option Hook := if g = 40 then some .sort else if g = 27 then some .delFn else if g = 21 then some .compact else none
noncomputable def cfg : Cfg := { fn := fnT, ti := tiT, glob := glT, cx := cxT, cmp := cmpT, hook := hookT, byteT := 5, frzB := false }
theorem hookC (g : Nat) : cfg.hook g = (if g = 40 then some .sort else if g = 27 then some .delFn else if g = 21 then some .compact else none) := rfl
theorem frzBC : cfg.frzB = false := rfl
theorem byteTC : cfg.byteT = 5 := rfl
theorem cmpC (t : Nat) : cfg.cmp t = (t == 69 || t == 70 || t == 77) := rfl
theorem cxC (k : Nat) : cfg.cx k = cxT k := rfl
theorem fnC (k : Nat) : cfg.fn k = fnT k := rfl
theorem tiC (k : Nat) : cfg.ti k = tiT k := rfl
section
open PV renaming dead -> z
abbrev qs (b : List Box) (l : List PV) (c : List Box) : St := ⟨l, b ++ c, b.length, none, false⟩
abbrev q0 (b : List Box) (l : List PV) : St := ⟨l, b, b.length, none, false⟩
noncomputable abbrev Jq : Job -> Option Out := stepJ (ev cfg) cfg
abbrev zz (l : List PV) : List PV := z :: z :: z :: z :: z :: z :: z :: z :: l
abbrev sh4_13 (a0 a1 a2 a3 a4 a5 a6 a7 a8 a9 : PV) : List PV := z :: z :: z :: a0 :: a1 :: a2 :: z :: a3 :: z :: a4 :: z :: z :: a5 :: a6 :: a7 :: zz (zz (zz (zz (zz (zz (zz (zz (zz (zz (z :: z :: z :: z :: z :: a8 :: a9 :: zz (zz (zz (zz (zz (z :: z :: z :: z :: [])))))))))))))))
abbrev se4_13 (a0 a1 a2 a3 a4 : PV) : List PV := z :: z :: z :: z :: z :: z :: z :: a0 :: z :: a1 :: z :: z :: a2 :: a3 :: a4 :: zz (zz (zz (zz (zz (zz (zz (zz (zz (zz (zz (zz (zz (zz (zz (zz (z :: z :: z :: []))))))))))))))))
abbrev sh5_5 (a0 a1 a2 a3 a4 : PV) : List PV := z :: a0 :: z :: a1 :: zz (zz (z :: a2 :: a3 :: a4 :: zz (zz (z :: z :: z :: z :: []))))
abbrev se5_5 (a0 a1 a2 : PV) : List PV := z :: a0 :: a1 :: a2 :: zz (zz (zz (zz (zz ([])))))
abbrev sh5_11 (a0 a1 a2 a3 : PV) : List PV := z :: z :: z :: a0 :: zz (zz (zz (z :: z :: z :: z :: z :: a1 :: a2 :: a3 :: zz ([]))))
abbrev se5_11 (a0 : PV) : List PV := z :: z :: a0 :: zz (zz (zz (zz (zz (z :: [])))))
abbrev sh6_5 (a0 a1 a2 a3 a4 : PV) : List PV := z :: a0 :: a1 :: zz (zz (zz (zz (z :: z :: z :: z :: a2 :: a3 :: a4 :: zz (z :: [])))))
abbrev se6_5 (a0 : PV) : List PV := z :: z :: z :: z :: z :: z :: a0 :: zz (zz (zz (zz (zz (z :: z :: z :: z :: [])))))
abbrev sh11_7 (a0 a1 a2 a3 : PV) : List PV := z :: z :: a0 :: z :: z :: z :: z :: a1 :: zz (z :: z :: z :: z :: z :: z :: z :: a2 :: a3 :: zz (z :: z :: []))
abbrev se11_7 (a0 a1 : PV) : List PV := z :: z :: a0 :: z :: z :: z :: z :: a1 :: zz (zz (zz (z :: z :: z :: [])))
abbrev sh13_3 (a0 a1 a2 a3 : PV) : List PV := z :: z :: z :: a0 :: z :: z :: z :: z :: a1 :: a2 :: a3 :: zz (z :: z :: z :: z :: [])
abbrev se13_3 (a0 : PV) : List PV := z :: z :: z :: a0 :: zz (zz (z :: z :: z :: []))
abbrev sh14_3 (a0 a1 a2 a3 a4 a5 : PV) : List PV := z :: a0 :: a1 :: a2 :: zz (z :: z :: z :: z :: a3 :: a4 :: a5 :: zz (zz (zz (zz ([])))))
abbrev se14_3 (a0 a1 a2 : PV) : List PV := z :: a0 :: a1 :: a2 :: zz (zz (zz (zz (zz (z :: z :: z :: z :: z :: z :: z :: [])))))
abbrev sh14_8 (a0 a1 a2 a3 a4 : PV) : List PV := z :: z :: a0 :: a1 :: zz (zz (zz (z :: z :: z :: a2 :: a3 :: a4 :: zz (zz (z :: [])))))
abbrev se14_8 (a0 a1 : PV) : List PV := z :: z :: a0 :: a1 :: zz (zz (zz (zz (zz (z :: z :: z :: z :: z :: z :: z :: [])))))
abbrev sh15_7 (a0 a1 a2 a3 a4 a5 a6 : PV) : List PV := z :: z :: a0 :: a1 :: a2 :: z :: z :: a3 :: zz (zz (zz (z :: z :: z :: z :: z :: a4 :: a5 :: a6 :: zz (zz (zz (z :: z :: z :: z :: z :: []))))))
abbrev se15_7 (a0 a1 a2 a3 : PV) : List PV := z :: z :: a0 :: a1 :: a2 :: z :: z :: a3 :: zz (zz (zz (zz (zz (zz (zz (z :: z :: z :: z :: z :: [])))))))
abbrev sh15_13 (a0 a1 a2 a3 a4 a5 : PV) : List PV := z :: z :: a0 :: a1 :: z :: z :: z :: a2 :: zz (zz (zz (zz (zz (z :: z :: z :: z :: z :: z :: z :: a3 :: a4 :: a5 :: zz (z :: z :: z :: []))))))
abbrev se15_13 (a0 : PV) : List PV := z :: z :: z :: z :: z :: z :: z :: a0 :: zz (zz (zz (zz (zz (zz (zz (z :: z :: z :: z :: z :: [])))))))
abbrev sh16_5 (a0 a1 a2 a3 a4 : PV) : List PV := z :: a0 :: a1 :: zz (zz (zz (z :: z :: z :: z :: z :: z :: a2 :: a3 :: a4 :: zz (z :: []))))
abbrev se16_5 (a0 : PV) : List PV := z :: z :: z :: z :: z :: z :: a0 :: zz (zz (zz (zz (z :: z :: z :: z :: z :: z :: []))))
abbrev sh25_4 (a0 a1 a2 a3 : PV) : List PV := a0 :: a1 :: zz (z :: z :: a2 :: a3 :: zz (z :: z :: z :: z :: []))
abbrev se25_4 (a0 : PV) : List PV := z :: z :: z :: z :: a0 :: zz (zz (z :: z :: z :: z :: z :: []))
abbrev sh26_4 (a0 a1 a2 a3 a4 : PV) : List PV := z :: a0 :: a1 :: zz (z :: z :: z :: z :: a2 :: a3 :: a4 :: zz (z :: z :: z :: z :: z :: z :: []))
abbrev se26_4 (a0 : PV) : List PV := z :: z :: z :: z :: z :: z :: a0 :: zz (zz (zz (z :: [])))
abbrev sh30_3 (a0 a1 a2 a3 : PV) : List PV := z :: a0 :: zz (a1 :: a2 :: a3 :: z :: z :: z :: z :: z :: z :: z :: [])
abbrev se30_3 : List PV := zz (zz (z :: z :: z :: z :: []))
abbrev sh32_3 (a0 a1 a2 a3 a4 : PV) : List PV := z :: a0 :: z :: z :: z :: a1 :: z :: z :: z :: a2 :: a3 :: a4 :: zz (z :: z :: z :: z :: z :: z :: [])
abbrev se32_3 (a0 : PV) : List PV := z :: z :: z :: z :: z :: a0 :: zz (zz (z :: z :: z :: z :: []))
abbrev sh34_3 (a0 a1 a2 a3 : PV) : List PV := z :: z :: z :: a0 :: z :: z :: z :: a1 :: a2 :: a3 :: zz (z :: z :: [])
abbrev se34_3 (a0 : PV) : List PV := z :: z :: z :: a0 :: zz (zz ([]))
abbrev sh38_9 (a0 a1 a2 a3 a4 a5 : PV) : List PV := z :: a0 :: a1 :: a2 :: zz (z :: z :: z :: z :: z :: z :: z :: a3 :: a4 :: a5 :: zz (zz (z :: z :: [])))
abbrev se38_9 (a0 a1 : PV) : List PV := z :: z :: a0 :: a1 :: zz (zz (zz (zz (z :: z :: z :: z :: []))))
abbrev sh41_3 (a0 a1 a2 a3 : PV) : List PV := z :: a0 :: zz (zz (zz (z :: a1 :: a2 :: a3 :: zz (zz (z :: z :: z :: z :: [])))))
abbrev se41_3 : List PV := zz (zz (zz (zz (zz (zz (z :: z :: []))))))
abbrev sh44_2 (a0 a1 a2 a3 : PV) : List PV := a0 :: a1 :: z :: z :: z :: z :: z :: a2 :: a3 :: zz (z :: z :: [])
abbrev se44_2 (a0 : PV) : List PV := z :: z :: z :: z :: a0 :: zz (z :: z :: z :: z :: z :: z :: [])
abbrev sh45_3 (a0 a1 a2 a3 a4 : PV) : List PV := a0 :: z :: a1 :: z :: z :: z :: z :: a2 :: z :: a3 :: a4 :: zz (z :: z :: z :: z :: z :: [])
abbrev se45_3 (a0 : PV) : List PV := z :: z :: z :: z :: z :: z :: z :: a0 :: zz (zz ([]))
abbrev sh51_3 (a0 a1 a2 a3 : PV) : List PV := z :: z :: a0 :: a1 :: z :: z :: z :: a2 :: a3 :: zz (zz (zz (zz (zz (zz (zz (z :: z :: z :: z :: [])))))))
abbrev se51_3 (a0 : PV) : List PV := z :: z :: z :: z :: z :: z :: z :: a0 :: zz (zz (zz (zz (zz (zz (zz (z :: z :: z :: z :: z :: [])))))))
abbrev sh51_9 (a0 a1 a2 a3 a4 a5 a6 a7 : PV) : List PV := z :: z :: a0 :: a1 :: z :: z :: z :: a2 :: a3 :: a4 :: zz (zz (zz (a5 :: a6 :: a7 :: zz (zz (zz (zz ([])))))))
abbrev se51_9 (a0 a1 a2 a3 : PV) : List PV := z :: z :: a0 :: a1 :: z :: z :: z :: a2 :: a3 :: zz (zz (zz (zz (zz (zz (zz (z :: z :: z :: z :: [])))))))
abbrev sh57_3 (a0 a1 a2 a3 a4 a5 a6 : PV) : List PV := z :: z :: a0 :: a1 :: z :: a2 :: a3 :: z :: z :: z :: a4 :: a5 :: a6 :: zz (zz (zz (zz (zz (zz (zz (z :: z :: z :: z :: z :: z :: z :: [])))))))
abbrev se57_3 (a0 a1 a2 a3 : PV) : List PV := z :: z :: z :: a0 :: a1 :: a2 :: a3 :: zz (zz (zz (zz (zz (zz (zz (zz (z :: z :: z :: z :: z :: []))))))))
abbrev sh58_2 (a0 a1 a2 a3 : PV) : List PV := a0 :: a1 :: z :: z :: z :: z :: z :: a2 :: a3 :: zz (z :: z :: [])
abbrev se58_2 (a0 : PV) : List PV := z :: z :: z :: z :: a0 :: zz (z :: z :: z :: z :: z :: z :: [])
abbrev sh59_3 (a0 a1 a2 a3 a4 : PV) : List PV := z :: a0 :: z :: z :: z :: a1 :: z :: z :: z :: a2 :: a3 :: a4 :: zz (z :: z :: z :: z :: z :: [])
abbrev se59_3 (a0 : PV) : List PV := z :: z :: z :: z :: z :: a0 :: zz (zz (z :: z :: z :: []))
abbrev sh67_6 (a0 a1 a2 a3 a4 a5 a6 a7 a8 : PV) : List PV := z :: z :: a0 :: z :: z :: a1 :: a2 :: a3 :: a4 :: a5 :: zz (zz (a6 :: a7 :: a8 :: zz (zz (zz (zz (zz (zz (zz (zz (zz (zz (zz (z :: z :: z :: z :: z :: [])))))))))))))
abbrev se67_6 (a0 a1 a2 a3 a4 : PV) : List PV := z :: z :: z :: z :: z :: a0 :: a1 :: a2 :: a3 :: a4 :: zz (zz (zz (zz (zz (zz (zz (zz (zz (zz (zz (zz (zz (zz ([]))))))))))))))
abbrev sh68_2 (a0 a1 a2 a3 : PV) : List PV := a0 :: a1 :: z :: z :: z :: z :: z :: a2 :: a3 :: zz (z :: z :: [])
abbrev se68_2 (a0 : PV) : List PV := z :: z :: z :: z :: a0 :: zz (z :: z :: z :: z :: z :: z :: [])
abbrev sh100_2 (a0 a1 a2 a3 : PV) : List PV := a0 :: a1 :: z :: z :: z :: z :: z :: a2 :: a3 :: zz (z :: z :: [])
abbrev se100_2 (a0 : PV) : List PV := z :: z :: z :: z :: a0 :: zz (z :: z :: z :: z :: z :: z :: [])
end
theorem u0 : type_of% @cond3.eq_def := @cond3.eq_def
theorem u1 : type_of% @bagRes.eq_def := @bagRes.eq_def
theorem u2 : type_of% @bagOut.eq_def := @bagOut.eq_def
theorem u3 : type_of% @bagStore.eq_def := @bagStore.eq_def
theorem u4 : type_of% @isNilC.eq_def := @isNilC.eq_def
theorem u5 : type_of% @aNil.eq_def := @aNil.eq_def
theorem u6 : type_of% @D.nilQ.eq_def := @D.nilQ.eq_def
theorem u7 : type_of% @nilRes.eq_def := @nilRes.eq_def
theorem u8 : type_of% @isFnCall.eq_def := @isFnCall.eq_def
theorem u9 : type_of% @isTake.eq_def := @isTake.eq_def
theorem u10 : type_of% @tvOf.eq_def := @tvOf.eq_def
theorem u11 : type_of% @plainOp.eq_def := @plainOp.eq_def
theorem u12 : type_of% @plainV.eq_def := @plainV.eq_def
theorem u13 : type_of% @bagVal.eq_def := @bagVal.eq_def
theorem u14 : type_of% @bagCells.eq_def := @bagCells.eq_def
theorem u15 : type_of% @bagBox.eq_def := @bagBox.eq_def
theorem u16 : type_of% @fetch.eq_def := @fetch.eq_def
theorem u17 : type_of% @takeAt.eq_def := @takeAt.eq_def
theorem u18 : type_of% @moveTup.eq_def := @moveTup.eq_def
theorem u19 : type_of% @PV.ofValue.eq_def := @PV.ofValue.eq_def
theorem u20 : type_of% @D.ofCell.eq_def := @D.ofCell.eq_def
theorem u21 : type_of% @isTmp.eq_def := @isTmp.eq_def
theorem u22 : type_of% @PV.maySrc.eq_def := @PV.maySrc.eq_def
theorem u23 : type_of% @aBin.eq_def := @aBin.eq_def
theorem u24 : type_of% @eqCell.eq_def := @eqCell.eq_def
theorem u25 : type_of% @binLit.eq_def := @binLit.eq_def
theorem u26 : type_of% @eqKind.eq_def := @eqKind.eq_def
theorem u27 : type_of% @abool.eq_def := @abool.eq_def
theorem u28 : type_of% @aint.eq_def := @aint.eq_def
theorem u29 : type_of% @aUn.eq_def := @aUn.eq_def
theorem u30 : type_of% @okRes.eq_def := @okRes.eq_def
theorem u31 : type_of% @okAl.eq_def := @okAl.eq_def
theorem u32 : type_of% @tupOf.eq_def := @tupOf.eq_def
theorem u33 : type_of% @PV.noPtr.eq_def := @PV.noPtr.eq_def
theorem u34 : type_of% @PV.isDat.eq_def := @PV.isDat.eq_def
theorem u35 : type_of% @PV.isOwn.eq_def := @PV.isOwn.eq_def
theorem u36 : type_of% @PV.strip.eq_def := @PV.strip.eq_def
theorem u37 : type_of% @freezeC.eq_def := @freezeC.eq_def
theorem u38 : type_of% @PV.frz.eq_def := @PV.frz.eq_def
theorem u39 : type_of% @PV.frozen.eq_def := @PV.frozen.eq_def
theorem u40 : type_of% @eqRes.eq_def := @eqRes.eq_def
theorem u41 : type_of% @noCellAl.eq_def := @noCellAl.eq_def
theorem u42 : type_of% @addOff.eq_def := @addOff.eq_def
theorem u43 : type_of% @rdV.eq_def := @rdV.eq_def
theorem u44 : type_of% @lenV.eq_def := @lenV.eq_def
theorem u45 : type_of% @maxV.eq_def := @maxV.eq_def
theorem u46 : type_of% @ptrBox.eq_def := @ptrBox.eq_def
theorem u47 : type_of% @frzOut.eq_def := @frzOut.eq_def
theorem u48 : type_of% @frzIf.eq_def := @frzIf.eq_def
theorem u49 : type_of% @aopT1.eq_def := @aopT1.eq_def
theorem u50 : type_of% @refLt.eq_def := @refLt.eq_def
theorem u51 : type_of% @TK.isAgg.eq_def := @TK.isAgg.eq_def
theorem u52 : type_of% @Value.oneCell'.eq_def := @Value.oneCell'.eq_def
theorem es {j : Job} {r : Out} (h : stepJ (ev cfg) cfg j = some r) : ev cfg j = some r := ev_step cfg h
end Go.Proofs.YtifckjhggamefaaDoor
