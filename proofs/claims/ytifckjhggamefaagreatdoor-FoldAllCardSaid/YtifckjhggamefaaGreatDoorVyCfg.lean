/- The abstract interpreter's table for this seat: bodies, types, tables, policies. Written by a program (vxgen.py). -/
import Derived.Test.YtifckjhggamefaaGreatDoorProg
import Derived.Test.YtifckjhggamefaaGreatDoorUg
set_option linter.unusedSimpArgs false
set_option linter.unusedVariables false
set_option linter.unusedSectionVars false
namespace Go.Proofs.YtifckjhggamefaaGreatDoor
open Go Go.Vx
noncomputable def fnT : Nat -> Option Func
 | 5 => some Tryz.f5
 | 7 => some Tryz.f7
 | 8 => some Tryz.f8
 | 9 => some Tryz.f9
 | 11 => some Tryz.f11
 | 18 => some Tryz.f18
 | 19 => some Tryz.f19
 | 20 => some Tryz.f20
 | 21 => some Tryz.f21
 | 25 => some Tryz.f25
 | 26 => some Tryz.f26
 | 27 => some Tryz.f27
 | 28 => some Tryz.f28
 | 29 => some Tryz.f29
 | 30 => some Tryz.f30
 | 33 => some Tryz.f33
 | 37 => some Tryz.f37
 | 38 => some Tryz.f38
 | 39 => some Tryz.f39
 | 40 => some Tryz.f40
 | 41 => some Tryz.f41
 | 42 => some Tryz.f42
 | 43 => some Tryz.f43
 | 44 => some Tryz.f44
 | 45 => some Tryz.f45
 | 46 => some Tryz.f46
 | 47 => some Tryz.f47
 | 48 => some Tryz.f48
 | 49 => some Tryz.f49
 | 54 => some Tryz.f54
 | 55 => some Tryz.f55
 | 58 => some Tryz.f58
 | 59 => some Tryz.f59
 | 60 => some Tryz.f60
 | 61 => some Tryz.f61
 | 62 => some Tryz.f62
 | 63 => some Tryz.f63
 | 64 => some Tryz.f64
 | 68 => some Tryz.f68
 | 69 => some Tryz.f69
 | 70 => some Tryz.f70
 | 71 => some Tryz.f71
 | 72 => some Tryz.f72
 | 73 => some Tryz.f73
 | 74 => some Tryz.f74
 | 75 => some Tryz.f75
 | 76 => some Tryz.f76
 | 77 => some Tryz.f77
 | 78 => some Tryz.f78
 | 79 => some Tryz.f79
 | 81 => some Tryz.f81
 | 82 => some Tryz.f82
 | 83 => some Tryz.f83
 | 84 => some Tryz.f84
 | 89 => some Tryz.f89
 | 90 => some Tryz.f90
 | 91 => some Tryz.f91
 | 92 => some Tryz.f92
 | 93 => some Tryz.f93
 | 94 => some Tryz.f94
 | 95 => some Tryz.f95
 | 96 => some Tryz.f96
 | 97 => some Tryz.f97
 | 98 => some Tryz.f98
 | 107 => some Tryz.f107
 | 108 => some Tryz.f108
 | 109 => some Tryz.f109
 | 110 => some Tryz.f110
 | 111 => some Tryz.f111
 | 112 => some Tryz.f112
 | 113 => some Tryz.f113
 | 114 => some Tryz.f114
 | 115 => some Tryz.f115
 | 116 => some Tryz.f116
 | 117 => some Tryz.f117
 | 118 => some Tryz.f118
 | 119 => some Tryz.f119
 | 120 => some Tryz.f120
 | 121 => some Tryz.f121
 | 122 => some Tryz.f122
 | 123 => some Tryz.f123
 | 124 => some Tryz.f124
 | 127 => some Tryz.f127
 | 128 => some Tryz.f128
 | 129 => some Tryz.f129
 | 130 => some Tryz.f130
 | 133 => some Tryz.f133
 | 134 => some Tryz.f134
 | 135 => some Tryz.f135
 | 136 => some Tryz.f136
 | 137 => some Tryz.f137
 | 138 => some Tryz.f138
 | 139 => some Tryz.f139
 | 140 => some Tryz.f140
 | 141 => some Tryz.f141
 | 142 => some Tryz.f142
 | 143 => some Tryz.f143
 | 158 => some Tryz.f158
 | 159 => some Tryz.f159
 | 160 => some Tryz.f160
 | 167 => some Tryz.f167
 | 168 => some Tryz.f168
 | 169 => some Tryz.f169
 | 171 => some Tryz.f171
 | 172 => some Tryz.f172
 | 173 => some Tryz.f173
 | 174 => some Tryz.f174
 | 175 => some Tryz.f175
 | 176 => some Tryz.f176
 | 177 => some Tryz.f177
 | _ => none
def tiT : Nat -> Option TI
 | 2 => some { size := 1,bytes := 8,zero := [.lit (.int .i64 0)],kind := .int .i64 }
 | 3 => some { size := 1,bytes := 8,zero := [.lit (.int .i64 0)],kind := .int .i64 }
 | 4 => some { size := 1,bytes := 1,zero := [.lit (.bool false)],kind := .bool }
 | 5 => some { size := 1,bytes := 1,zero := [.lit (.int .u8 0)],kind := .int .u8 }
 | 6 => some { size := 1,bytes := 1,zero := [.lit (.int .u8 0)],kind := .int .u8 }
 | 7 => some { size := 4,bytes := 24,zero := [.lit (.int .i64 0),.lit (.int .i64 0),.lit (.bool false),.lit (.int .u8 0)],kind := .struct [(0,2),(1,3),(2,4),(3,6)] }
 | 8 => some { size := 4,bytes := 24,zero := [.lit (.int .i64 0),.lit (.int .i64 0),.lit (.bool false),.lit (.int .u8 0)],kind := .struct [(0,2),(1,3),(2,4),(3,6)] }
 | 9 => some { size := 1,bytes := 16,zero := [.lit (.string ⟨#[]⟩)],kind := .str }
 | 10 => some { size := 1,bytes := 16,zero := [.lit (.string ⟨#[]⟩)],kind := .str }
 | 11 => some { size := 1,bytes := 16,zero := [.lit (.string ⟨#[]⟩)],kind := .str }
 | 12 => some { size := 1,bytes := 8,zero := [.lit (.int .u64 0)],kind := .int .u64 }
 | 13 => some { size := 2,bytes := 24,zero := [.lit (.string ⟨#[]⟩),.lit (.int .u64 0)],kind := .struct [(0,9),(1,12)] }
 | 14 => some { size := 2,bytes := 24,zero := [.lit (.string ⟨#[]⟩),.lit (.int .u64 0)],kind := .struct [(0,9),(1,12)] }
 | 15 => some { size := 1,bytes := 8,zero := [.lit (.pointer none)],kind := .other }
 | 16 => some { size := 1,bytes := 8,zero := [.lit (.pointer none)],kind := .other }
 | 17 => some { size := 1,bytes := 8,zero := [.lit (.pointer none)],kind := .other }
 | 18 => some { size := 1,bytes := 8,zero := [.lit (.pointer none)],kind := .struct [(0,17)] }
 | 19 => some { size := 1,bytes := 8,zero := [.lit (.pointer none)],kind := .struct [(0,17)] }
 | 21 => some { size := 1,bytes := 4,zero := [.lit (.int .i32 0)],kind := .int .i32 }
 | 22 => some { size := 1,bytes := 24,zero := [.nil],kind := .slice 66 }
 | 23 => some { size := 1,bytes := 24,zero := [.nil],kind := .slice 57 }
 | 24 => some { size := 2,bytes := 48,zero := [.nil,.nil],kind := .struct [(0,22),(1,23)] }
 | 25 => some { size := 2,bytes := 48,zero := [.nil,.nil],kind := .struct [(0,22),(1,23)] }
 | 28 => some { size := 1,bytes := 24,zero := [.nil],kind := .slice 31 }
 | 29 => some { size := 1,bytes := 24,zero := [.nil],kind := .slice 93 }
 | 30 => some { size := 5,bytes := 72,zero := [.lit (.int .i64 0),.lit (.int .i64 0),.lit (.int .i64 0),.nil,.nil],kind := .struct [(0,3),(1,3),(2,3),(3,28),(4,29)] }
 | 31 => some { size := 5,bytes := 72,zero := [.lit (.int .i64 0),.lit (.int .i64 0),.lit (.int .i64 0),.nil,.nil],kind := .struct [(0,3),(1,3),(2,3),(3,28),(4,29)] }
 | 32 => some { size := 1,bytes := 8,zero := [.lit (.int .i64 0)],kind := .int .i64 }
 | 35 => some { size := 1,bytes := 24,zero := [.nil],kind := .slice 38 }
 | 36 => some { size := 1,bytes := 24,zero := [.nil],kind := .slice 94 }
 | 37 => some { size := 5,bytes := 72,zero := [.lit (.int .i64 0),.lit (.int .i64 0),.lit (.int .i64 0),.nil,.nil],kind := .struct [(0,3),(1,3),(2,3),(3,35),(4,36)] }
 | 38 => some { size := 5,bytes := 72,zero := [.lit (.int .i64 0),.lit (.int .i64 0),.lit (.int .i64 0),.nil,.nil],kind := .struct [(0,3),(1,3),(2,3),(3,35),(4,36)] }
 | 44 => some { size := 1,bytes := 24,zero := [.nil],kind := .slice 46 }
 | 45 => some { size := 2,bytes := 32,zero := [.lit (.int .i64 0),.nil],kind := .struct [(0,3),(1,44)] }
 | 46 => some { size := 2,bytes := 32,zero := [.lit (.int .i64 0),.nil],kind := .struct [(0,3),(1,44)] }
 | 47 => some { size := 1,bytes := 8,zero := [.lit (.pointer none)],kind := .other }
 | 48 => some { size := 3,bytes := 56,zero := [.nil,.nil,.lit (.int .i64 0)],kind := .struct [(0,25),(2,3)] }
 | 49 => some { size := 3,bytes := 56,zero := [.nil,.nil,.lit (.int .i64 0)],kind := .struct [(0,25),(2,3)] }
 | 53 => some { size := 1,bytes := 24,zero := [.nil],kind := .slice 55 }
 | 54 => some { size := 3,bytes := 40,zero := [.lit (.int .i64 0),.lit (.int .i64 0),.nil],kind := .struct [(0,3),(1,3),(2,53)] }
 | 55 => some { size := 3,bytes := 40,zero := [.lit (.int .i64 0),.lit (.int .i64 0),.nil],kind := .struct [(0,3),(1,3),(2,53)] }
 | 56 => some { size := 6,bytes := 64,zero := [.lit (.int .i64 0),.lit (.int .i64 0),.lit (.bool false),.lit (.int .i64 0),.lit (.int .i64 0),.nil],kind := .struct [(0,3),(1,3),(2,4),(3,55)] }
 | 57 => some { size := 6,bytes := 64,zero := [.lit (.int .i64 0),.lit (.int .i64 0),.lit (.bool false),.lit (.int .i64 0),.lit (.int .i64 0),.nil],kind := .struct [(0,3),(1,3),(2,4),(3,55)] }
 | 58 => some { size := 2,bytes := 16,zero := [.lit (.int .i64 0),.lit (.int .i64 0)],kind := .struct [(0,3),(1,3)] }
 | 59 => some { size := 2,bytes := 16,zero := [.lit (.int .i64 0),.lit (.int .i64 0)],kind := .struct [(0,3),(1,3)] }
 | 62 => some { size := 1,bytes := 24,zero := [.nil],kind := .slice 3 }
 | 65 => some { size := 5,bytes := 56,zero := [.lit (.int .i64 0),.lit (.int .i64 0),.lit (.int .i64 0),.lit (.int .i64 0),.nil],kind := .struct [(0,3),(1,3),(2,55)] }
 | 66 => some { size := 5,bytes := 56,zero := [.lit (.int .i64 0),.lit (.int .i64 0),.lit (.int .i64 0),.lit (.int .i64 0),.nil],kind := .struct [(0,3),(1,3),(2,55)] }
 | 73 => some { size := 1,bytes := 8,zero := [.lit (.pointer none)],kind := .other }
 | 74 => some { size := 1,bytes := 8,zero := [.lit (.int .i64 0)],kind := .struct [(0,3)] }
 | 75 => some { size := 1,bytes := 8,zero := [.lit (.int .i64 0)],kind := .struct [(0,3)] }
 | 79 => some { size := 1,bytes := 8,zero := [.lit (.pointer none)],kind := .other }
 | 82 => some { size := 4,bytes := 96,zero := [.nil,.nil,.nil,.nil],kind := .struct [(0,25),(2,28),(3,29)] }
 | 83 => some { size := 4,bytes := 96,zero := [.nil,.nil,.nil,.nil],kind := .struct [(0,25),(2,28),(3,29)] }
 | 86 => some { size := 6,bytes := 80,zero := [.lit (.int .i64 0),.lit (.int .i64 0),.lit (.int .i64 0),.nil,.nil,.lit (.int .i64 0)],kind := .struct [(0,38),(5,3)] }
 | 87 => some { size := 6,bytes := 80,zero := [.lit (.int .i64 0),.lit (.int .i64 0),.lit (.int .i64 0),.nil,.nil,.lit (.int .i64 0)],kind := .struct [(0,38),(5,3)] }
 | 92 => some { size := 3,bytes := 24,zero := [.lit (.int .i64 0),.lit (.int .i64 0),.lit (.int .i64 0)],kind := .struct [(0,3),(1,3),(2,3)] }
 | 93 => some { size := 3,bytes := 24,zero := [.lit (.int .i64 0),.lit (.int .i64 0),.lit (.int .i64 0)],kind := .struct [(0,3),(1,3),(2,3)] }
 | 94 => some { size := 3,bytes := 24,zero := [.lit (.int .i64 0),.lit (.int .i64 0),.lit (.int .i64 0)],kind := .struct [(0,3),(1,3),(2,3)] }
 | 101 => some { size := 1,bytes := 24,zero := [.nil],kind := .slice 4 }
 | 116 => some { size := 1,bytes := 24,zero := [.nil],kind := .slice 118 }
 | 118 => some { size := 2,bytes := 16,zero := [.lit (.int .i64 0),.lit (.int .i64 0)],kind := .struct [(0,3),(1,3)] }
 | 132 => some { size := 11,bytes := 176,zero := [.lit (.string ⟨#[]⟩),.lit (.string ⟨#[]⟩),.lit (.string ⟨#[]⟩),.lit (.string ⟨#[]⟩),.lit (.string ⟨#[]⟩),.lit (.string ⟨#[]⟩),.lit (.string ⟨#[]⟩),.lit (.string ⟨#[]⟩),.lit (.string ⟨#[]⟩),.lit (.string ⟨#[]⟩),.lit (.string ⟨#[]⟩)],kind := .array 11 9 }
 | 137 => some { size := 1,bytes := 24,zero := [.nil],kind := .slice 142 }
 | 141 => some { size := 3,bytes := 24,zero := [.lit (.int .i64 0),.lit (.int .i64 0),.lit (.int .i64 0)],kind := .struct [(0,3),(1,3),(2,3)] }
 | 142 => some { size := 3,bytes := 24,zero := [.lit (.int .i64 0),.lit (.int .i64 0),.lit (.int .i64 0)],kind := .struct [(0,3),(1,3),(2,3)] }
 | 149 => some { size := 2,bytes := 48,zero := [.nil,.nil],kind := .struct [(0,62),(1,62)] }
 | 150 => some { size := 2,bytes := 48,zero := [.nil,.nil],kind := .struct [(0,62),(1,62)] }
 | 151 => some { size := 1,bytes := 24,zero := [.nil],kind := .slice 154 }
 | 153 => some { size := 3,bytes := 24,zero := [.lit (.int .i64 0),.lit (.int .i64 0),.lit (.int .i64 0)],kind := .struct [(0,3),(1,3),(2,3)] }
 | 154 => some { size := 3,bytes := 24,zero := [.lit (.int .i64 0),.lit (.int .i64 0),.lit (.int .i64 0)],kind := .struct [(0,3),(1,3),(2,3)] }
 | 167 => some { size := 1,bytes := 8,zero := [.lit (.int .u64 0)],kind := .int .u64 }
 | 173 => some { size := 1,bytes := 8,zero := [.lit (.int .i64 0)],kind := .int .i64 }
 | 182 => some { size := 1,bytes := 4,zero := [.lit (.int .u32 0)],kind := .int .u32 }
 | 184 => some { size := 1,bytes := 8,zero := [.lit (.int .u64 0)],kind := .int .u64 }
 | 187 => some { size := 1,bytes := 8,zero := [.lit (.int .u64 0)],kind := .int .u64 }
 | 191 => some { size := 1,bytes := 8,zero := [.lit (.pointer none)],kind := .other }
 | 194 => some { size := 1,bytes := 8,zero := [.lit (.pointer none)],kind := .other }
 | 196 => some { size := 4,bytes := 40,zero := [.lit (.string ⟨#[]⟩),.lit (.int .i64 0),.lit (.int .i64 0),.lit (.int .i64 0)],kind := .struct [(0,9),(1,3),(2,3),(3,3)] }
 | 197 => some { size := 4,bytes := 40,zero := [.lit (.string ⟨#[]⟩),.lit (.int .i64 0),.lit (.int .i64 0),.lit (.int .i64 0)],kind := .struct [(0,9),(1,3),(2,3),(3,3)] }
 | 198 => some { size := 60,bytes := 600,zero := [.lit (.string ⟨#[]⟩),.lit (.int .i64 0),.lit (.int .i64 0),.lit (.int .i64 0),.lit (.string ⟨#[]⟩),.lit (.int .i64 0),.lit (.int .i64 0),.lit (.int .i64 0),.lit (.string ⟨#[]⟩),.lit (.int .i64 0),.lit (.int .i64 0),.lit (.int .i64 0),.lit (.string ⟨#[]⟩),.lit (.int .i64 0),.lit (.int .i64 0),.lit (.int .i64 0),.lit (.string ⟨#[]⟩),.lit (.int .i64 0),.lit (.int .i64 0),.lit (.int .i64 0),.lit (.string ⟨#[]⟩),.lit (.int .i64 0),.lit (.int .i64 0),.lit (.int .i64 0),.lit (.string ⟨#[]⟩),.lit (.int .i64 0),.lit (.int .i64 0),.lit (.int .i64 0),.lit (.string ⟨#[]⟩),.lit (.int .i64 0),.lit (.int .i64 0),.lit (.int .i64 0),.lit (.string ⟨#[]⟩),.lit (.int .i64 0),.lit (.int .i64 0),.lit (.int .i64 0),.lit (.string ⟨#[]⟩),.lit (.int .i64 0),.lit (.int .i64 0),.lit (.int .i64 0),.lit (.string ⟨#[]⟩),.lit (.int .i64 0),.lit (.int .i64 0),.lit (.int .i64 0),.lit (.string ⟨#[]⟩),.lit (.int .i64 0),.lit (.int .i64 0),.lit (.int .i64 0),.lit (.string ⟨#[]⟩),.lit (.int .i64 0),.lit (.int .i64 0),.lit (.int .i64 0),.lit (.string ⟨#[]⟩),.lit (.int .i64 0),.lit (.int .i64 0),.lit (.int .i64 0),.lit (.string ⟨#[]⟩),.lit (.int .i64 0),.lit (.int .i64 0),.lit (.int .i64 0)],kind := .array 15 197 }
 | 202 => some { size := 4,bytes := 40,zero := [.lit (.pointer none),.lit (.pointer none),.lit (.pointer none),.lit (.string ⟨#[]⟩)],kind := .struct [(0,17),(1,17),(2,17),(3,9)] }
 | 203 => some { size := 4,bytes := 40,zero := [.lit (.pointer none),.lit (.pointer none),.lit (.pointer none),.lit (.string ⟨#[]⟩)],kind := .struct [(0,17),(1,17),(2,17),(3,9)] }
 | 204 => some { size := 0,bytes := 0,zero := [],kind := .array 0 16 }
 | 205 => some { size := 0,bytes := 0,zero := [],kind := .struct [(0,204)] }
 | 206 => some { size := 0,bytes := 0,zero := [],kind := .struct [(0,204)] }
 | 207 => some { size := 1,bytes := 1,zero := [.lit (.int .u8 0)],kind := .int .u8 }
 | 208 => some { size := 1,bytes := 1,zero := [.lit (.int .u8 0)],kind := .int .u8 }
 | 210 => some { size := 1,bytes := 8,zero := [.lit (.pointer none)],kind := .other }
 | 211 => some { size := 1,bytes := 4,zero := [.lit (.int .i32 0)],kind := .int .i32 }
 | 212 => some { size := 1,bytes := 4,zero := [.lit (.int .i32 0)],kind := .int .i32 }
 | _ => none
def cxT : Nat -> Cx
 | 5 => { live := [(7,[1,3,4,5,6,7,31,32,33],[1,3,4,5,6,7])] }
 | 7 => { live := [(5,[1,3,21,22,23],[1,2,3]),(11,[3,33,34,35],[2])] }
 | 8 => {}
 | 9 => { live := [(5,[2,6],[2,6])] }
 | 11 => { segs := [(24,[15,1,1,1])],live := [(7,[1,2,6,7,27,28,29],[1,2,6,7]),(22,[2,6,7,63,64,65],[2,6])] }
 | 18 => { live := [(4,[1,2,26,27,28],[1,2]),(10,[1,2,40,41,42],[1,2]),(18,[1,2,7,8,59,60,61],[1,2,7,8]),(27,[1,2,8,11,108,109],[2])] }
 | 19 => {}
 | 20 => { pol := [(11,3,.copy)],live := [(7,[2,7,23,24],[2,7])] }
 | 21 => { segs := [(4,[3,1,1,8,1,1])],live := [(2,[0,1,7,8],[0,1,4])] }
 | 25 => { live := [(5,[1,2,33,34,35],[6])] }
 | 26 => {}
 | 27 => { pol := [(1,7,.take),(1,8,.take)],segs := [(1,[7,1,1,1])] }
 | 28 => {}
 | 29 => {}
 | 30 => { segs := [(1,[8,1,1])] }
 | 33 => { segs := [(3,[9,1])] }
 | 37 => {}
 | 38 => {}
 | 39 => { live := [(2,[1,8,9,10],[4])] }
 | 40 => { segs := [(11,[8,1,1,1,1])],live := [(7,[1,2,5,7,8,9,21,22,23],[1,2,5,7,8,9])] }
 | 41 => { live := [(4,[2,5,17,18],[5]),(6,[2,5,17,18,21,22,23],[2,5,17,18])] }
 | 42 => {}
 | 43 => {}
 | 44 => {}
 | 45 => { segs := [(6,[9,1]),(11,[9,1])],live := [(4,[0,3],[0,2]),(9,[0,3,4,5],[0,3])] }
 | 46 => {}
 | 47 => { live := [(5,[0,1,5,6],[0,5])] }
 | 48 => {}
 | 49 => {}
 | 54 => { pol := [(8,1,.copy)],live := [(3,[1,5,9,10,11],[5])] }
 | 55 => { pol := [(8,1,.copy)],live := [(3,[1,5,9,10,11],[5])] }
 | 58 => {}
 | 59 => { segs := [(24,[16,1,1])],live := [(16,[1,3,54,55,56],[1,3]),(22,[3,70,71,72],[3])] }
 | 60 => {}
 | 61 => {}
 | 62 => { segs := [(8,[24,1,1]),(9,[10,1,1,1])],live := [(2,[0,10,11],[2])],takes := [(8,[(22,55),(23,64)])],frz := [9] }
 | 63 => { pol := [(14,0,.take)],segs := [(25,[6,1,1]),(26,[10,1,1,1])],live := [(2,[0,19,20],[2]),(15,[0,3,4,6,9,10,11,71,72,73],[0,3,6,9,10,11])],frz := [26],pre := [(25,9)] }
 | 64 => { segs := [(9,[12,1,1]),(11,[7,1]),(13,[6,1]),(14,[18,1]),(15,[10,1,1]),(23,[6,1,1]),(24,[9,1,1,1])],live := [(2,[0,21,22],[2]),(18,[0,3,6,9,12,13,14,124,125,126],[0,3,6,9,12,13,14])],mix := [(11,[4,6]),(13,[5])],frz := [14,15] }
 | 68 => { segs := [(12,[10,1,1])] }
 | 69 => {}
 | 70 => {}
 | 71 => { live := [(3,[3,7,8,9],[3])] }
 | 72 => {}
 | 73 => {}
 | 74 => {}
 | 75 => {}
 | 76 => { live := [(3,[1,10,11,12],[])] }
 | 77 => { segs := [(11,[8,1,1])],live := [(9,[1,2,3,19,20,21],[2,3])] }
 | 78 => {}
 | 79 => {}
 | 81 => { live := [(2,[0,1,7,8],[4])] }
 | 82 => {}
 | 83 => {}
 | 84 => {}
 | 89 => { live := [(3,[1,27,28,29],[])] }
 | 90 => {}
 | 91 => {}
 | 92 => { pol := [(6,2,.copy)] }
 | 93 => { live := [(3,[0,1,2,6,7,22,23,24],[0,2,6,7]),(11,[0,2,6,7,10,46,47,48],[0,7,10])] }
 | 94 => { segs := [(1,[2,1,1,17,1,1,1,6,1,1,1])] }
 | 95 => { segs := [(6,[1,1,1,1,6,1,1])],live := [(3,[0,1,2,9,16,17,18],[0,1,2,6,7,8,9])] }
 | 96 => { segs := [(5,[1,1,1,1,1,1,1,1,1,1,1,20,1,1])],live := [(2,[0,2,12,13,14],[6])] }
 | 97 => { segs := [(3,[6,1,1,1])] }
 | 98 => {}
 | 107 => { live := [(3,[0,2,7,9,10],[7])] }
 | 108 => {}
 | 109 => {}
 | 110 => { segs := [(1,[6,1,1,1])] }
 | 111 => {}
 | 112 => { segs := [(1,[6,1,1])] }
 | 113 => { pol := [(5,1,.take),(16,1,.copy)],live := [(3,[2,3,7,8],[7]),(9,[2,3,7,8,9,34,35,36],[2,3,7,8])] }
 | 114 => {}
 | 115 => {}
 | 116 => {}
 | 117 => {}
 | 118 => {}
 | 119 => {}
 | 120 => {}
 | 121 => { live := [(3,[2,3,5,6,10,11,12],[3,4,5,6])] }
 | 122 => { live := [(2,[0,1,7,8],[4])] }
 | 123 => { pol := [(8,1,.copy)],live := [(3,[1,5,9,10,11],[5])] }
 | 124 => {}
 | 127 => {}
 | 128 => { live := [(3,[1,5,11,12,13],[5])] }
 | 129 => {}
 | 130 => {}
 | 133 => {}
 | 134 => {}
 | 135 => {}
 | 136 => {}
 | 137 => { segs := [(2,[11,1]),(10,[1,1,8,1,1,1,1,1,1])],live := [(6,[2,5,6,7,8,9,26,27,28],[5,6,7,8,9])] }
 | 138 => { live := [(2,[0,1,7,8],[4])] }
 | 139 => {}
 | 140 => {}
 | 141 => {}
 | 142 => { live := [(3,[3,15,16,17],[2])] }
 | 143 => {}
 | 158 => {}
 | 159 => { live := [(3,[3,8,9,10],[3])] }
 | 160 => { segs := [(1,[1,1,1,1,1,1,1,1,1,6,1,1,1,1,1,1,1])],live := [(6,[56,57,58],[2])] }
 | 167 => {}
 | 168 => {}
 | 169 => {}
 | 171 => {}
 | 172 => { segs := [(5,[1,1,1,1,1,1,1,1,1,1,1,1,1,1,8,1,1,1])] }
 | 173 => {}
 | 174 => { segs := [(1,[4,1,1])] }
 | 175 => {}
 | 176 => {}
 | 177 => { live := [(2,[0,1,7,8],[4])] }
 | _ => {}
def glT : Nat -> Option (List D)
 | 0 => some (.lit (.string ⟨#[]⟩) :: .lit (.string ⟨#[]⟩) :: .lit (.string ⟨#[]⟩) :: .lit (.string ⟨#[115,101,113]⟩) :: .lit (.string ⟨#[112,97,114]⟩) :: .lit (.string ⟨#[97,108,116]⟩) :: .lit (.string ⟨#[112,105,99,107]⟩) :: .lit (.string ⟨#[108,111,111,112]⟩) :: .lit (.string ⟨#[]⟩) :: .lit (.string ⟨#[119,101,98]⟩) :: .lit (.string ⟨#[]⟩) :: [])
 | 1 => some (.lit (.string ⟨#[]⟩) :: .lit (.int .i64 0) :: .lit (.int .i64 0) :: .lit (.int .i64 0) :: .lit (.string ⟨#[]⟩) :: .lit (.int .i64 0) :: .lit (.int .i64 0) :: .lit (.int .i64 0) :: .lit (.string ⟨#[]⟩) :: .lit (.int .i64 0) :: .lit (.int .i64 0) :: .lit (.int .i64 0) :: .lit (.string ⟨#[110,101,103]⟩) :: .lit (.int .i64 1) :: .lit (.int .i64 1) :: .lit (.int .i64 1) :: .lit (.string ⟨#[110,111,116]⟩) :: .lit (.int .i64 1) :: .lit (.int .i64 2) :: .lit (.int .i64 2) :: .lit (.string ⟨#[97,100,100]⟩) :: .lit (.int .i64 2) :: .lit (.int .i64 1) :: .lit (.int .i64 1) :: .lit (.string ⟨#[115,117,98]⟩) :: .lit (.int .i64 2) :: .lit (.int .i64 1) :: .lit (.int .i64 1) :: .lit (.string ⟨#[109,117,108]⟩) :: .lit (.int .i64 2) :: .lit (.int .i64 1) :: .lit (.int .i64 1) :: .lit (.string ⟨#[100,105,118]⟩) :: .lit (.int .i64 2) :: .lit (.int .i64 1) :: .lit (.int .i64 1) :: .lit (.string ⟨#[109,111,100]⟩) :: .lit (.int .i64 2) :: .lit (.int .i64 1) :: .lit (.int .i64 1) :: .lit (.string ⟨#[101,113]⟩) :: .lit (.int .i64 2) :: .lit (.int .i64 1) :: .lit (.int .i64 2) :: .lit (.string ⟨#[108,116]⟩) :: .lit (.int .i64 2) :: .lit (.int .i64 1) :: .lit (.int .i64 2) :: .lit (.string ⟨#[108,101]⟩) :: .lit (.int .i64 2) :: .lit (.int .i64 1) :: .lit (.int .i64 2) :: .lit (.string ⟨#[97,110,100]⟩) :: .lit (.int .i64 2) :: .lit (.int .i64 2) :: .lit (.int .i64 2) :: .lit (.string ⟨#[111,114]⟩) :: .lit (.int .i64 2) :: .lit (.int .i64 2) :: .lit (.int .i64 2) :: [])
 | _ => none
def cmpT (t : Nat) : Bool := t == 92 || t == 93 || t == 94
def hookT (g : Nat) : Option Hook := if g = 79 then some .sort else if g = 47 then some .delFn else if g = 45 then some .compact else none
noncomputable def cfg : Cfg := { fn := fnT,ti := tiT,glob := glT,cx := cxT,cmp := cmpT,hook := hookT,byteT := 5,frzB := false }
theorem hookC (g : Nat) : cfg.hook g = (if g = 79 then some .sort else if g = 47 then some .delFn else if g = 45 then some .compact else none) := rfl
theorem frzBC : cfg.frzB = false := rfl
theorem byteTC : cfg.byteT = 5 := rfl
theorem cmpC (t : Nat) : cfg.cmp t = (t == 92 || t == 93 || t == 94) := rfl
theorem cxC (k : Nat) : cfg.cx k = cxT k := rfl
theorem fnC (k : Nat) : cfg.fn k = fnT k := rfl
theorem tiC (k : Nat) : cfg.ti k = tiT k := rfl
section
open PV renaming dead -> z
abbrev qs (b : List Box) (l : List PV) (c : List Box) : St := ⟨l,b ++ c,b.length,none,false⟩
abbrev q0 (b : List Box) (l : List PV) : St := ⟨l,b,b.length,none,false⟩
abbrev Cq (f : Nat) (a : List PV) (r : PV) : Prop := ∀ b : List Box,ev cfg (.call f a b) = some (.ret r none)
abbrev Oq (d : D) : Prop := d.oneC = true
abbrev Rq (x : PV) : Option Out := some (.ret x none)
abbrev Nq (x y : D) : PV := .agg [.dat x,.dat y]
abbrev Nb (x y : D) : Box := [.dat x,.dat y]
abbrev Wq (a b c : Int) (x y : D) : PV := .agg [I a,I b,I c,.dat x,.dat y]
abbrev Wx (a b c : Int) (x y : D) : Box := [I a,I b,I c,.dat x,.dat y]
abbrev Tq (a b : Int) (x : D) : PV := .agg [I a,I b,.dat x]
abbrev Aq (a b c : Int) : PV := .agg [I a,I b,I c]
abbrev E6 : Box := Wx 0 0 0 .nil .nil
abbrev P0 (b : List Box) : PV := .ptr b.length 0
abbrev P1 (b : List Box) : PV := .ptr (b.length + 1) 0
abbrev P2 (b : List Box) : PV := .ptr (b.length + 2) 0
abbrev P4 (b : List Box) : PV := .ptr (b.length + 4) 0
abbrev P5 (b : List Box) : PV := .ptr (b.length + 5) 0
noncomputable abbrev Jq : Job -> Option Out := stepJ (ev cfg) cfg
abbrev zz (l : List PV) : List PV := z :: z :: z :: z :: z :: z :: z :: z :: l
abbrev sh5_7 (a0 a1 a2 a3 a4 a5 a6 a7 a8 : PV) : List PV := z :: a0 :: z :: a1 :: a2 :: a3 :: a4 :: a5 :: zz (zz (z :: z :: z :: z :: z :: z :: z :: a6 :: a7 :: a8 :: zz (zz (zz (zz (zz (z :: z :: [])))))))
abbrev se5_7 (a0 a1 a2 a3 a4 a5 : PV) : List PV := z :: a0 :: z :: a1 :: a2 :: a3 :: a4 :: a5 :: zz (zz (zz (zz (zz (zz (zz (zz (z :: z :: z :: z :: []))))))))
abbrev sh7_5 (a0 a1 a2 a3 a4 : PV) : List PV := z :: a0 :: z :: a1 :: zz (zz (z :: a2 :: a3 :: a4 :: zz (zz (z :: z :: z :: z :: []))))
abbrev se7_5 (a0 a1 a2 : PV) : List PV := z :: a0 :: a1 :: a2 :: zz (zz (zz (zz (zz ([])))))
abbrev sh7_11 (a0 a1 a2 a3 : PV) : List PV := z :: z :: z :: a0 :: zz (zz (zz (z :: z :: z :: z :: z :: a1 :: a2 :: a3 :: zz ([]))))
abbrev se7_11 (a0 : PV) : List PV := z :: z :: a0 :: zz (zz (zz (zz (zz (z :: [])))))
abbrev sh9_5 (a0 a1 : PV) : List PV := z :: z :: a0 :: z :: z :: z :: a1 :: zz (zz (zz (zz (zz (zz (z :: []))))))
abbrev se9_5 (a0 a1 : PV) : List PV := z :: z :: a0 :: z :: z :: z :: a1 :: zz (zz (zz (zz (zz (zz (z :: []))))))
abbrev sh11_7 (a0 a1 a2 a3 a4 a5 a6 : PV) : List PV := z :: a0 :: a1 :: z :: z :: z :: a2 :: a3 :: zz (zz (z :: z :: z :: a4 :: a5 :: a6 :: zz (zz (zz (zz (zz (zz (zz (z :: z :: z :: [])))))))))
abbrev se11_7 (a0 a1 a2 a3 : PV) : List PV := z :: a0 :: a1 :: z :: z :: z :: a2 :: a3 :: zz (zz (zz (zz (zz (zz (zz (zz (zz (zz (z :: []))))))))))
abbrev sh11_22 (a0 a1 a2 a3 a4 a5 : PV) : List PV := z :: z :: a0 :: z :: z :: z :: a1 :: a2 :: zz (zz (zz (zz (zz (zz (z :: z :: z :: z :: z :: z :: z :: a3 :: a4 :: a5 :: zz (zz (z :: z :: z :: z :: z :: z :: z :: []))))))))
abbrev se11_22 (a0 a1 : PV) : List PV := z :: z :: a0 :: z :: z :: z :: a1 :: zz (zz (zz (zz (zz (zz (zz (zz (zz (zz (z :: z :: []))))))))))
abbrev sh18_4 (a0 a1 a2 a3 a4 : PV) : List PV := z :: a0 :: a1 :: zz (zz (z :: z :: z :: z :: z :: z :: z :: a2 :: a3 :: a4 :: zz (zz (zz (zz (zz (zz (zz (zz (zz (zz (zz (zz (z :: z :: z :: z :: z :: z :: []))))))))))))))
abbrev se18_4 (a0 a1 : PV) : List PV := z :: a0 :: a1 :: zz (zz (zz (zz (zz (zz (zz (zz (zz (zz (zz (zz (zz (zz (zz (zz ([]))))))))))))))))
abbrev sh18_10 (a0 a1 a2 a3 a4 : PV) : List PV := z :: a0 :: a1 :: zz (zz (zz (zz (z :: z :: z :: z :: z :: a2 :: a3 :: a4 :: zz (zz (zz (zz (zz (zz (zz (zz (zz (zz (zz ([])))))))))))))))
abbrev se18_10 (a0 a1 : PV) : List PV := z :: a0 :: a1 :: zz (zz (zz (zz (zz (zz (zz (zz (zz (zz (zz (zz (zz (zz (zz (zz ([]))))))))))))))))
abbrev sh18_18 (a0 a1 a2 a3 a4 a5 a6 : PV) : List PV := z :: a0 :: a1 :: z :: z :: z :: z :: a2 :: a3 :: zz (zz (zz (zz (zz (zz (z :: z :: a4 :: a5 :: a6 :: zz (zz (zz (zz (zz (zz (zz (zz (z :: z :: z :: z :: z :: []))))))))))))))
abbrev se18_18 (a0 a1 a2 a3 : PV) : List PV := z :: a0 :: a1 :: z :: z :: z :: z :: a2 :: a3 :: zz (zz (zz (zz (zz (zz (zz (zz (zz (zz (zz (zz (zz (zz (zz (z :: z :: [])))))))))))))))
abbrev sh18_27 (a0 a1 a2 a3 a4 a5 : PV) : List PV := z :: a0 :: a1 :: z :: z :: z :: z :: z :: a2 :: z :: z :: a3 :: zz (zz (zz (zz (zz (zz (zz (zz (zz (zz (zz (zz (a4 :: a5 :: zz (zz (z :: z :: z :: z :: z :: []))))))))))))))
abbrev se18_27 (a0 : PV) : List PV := z :: z :: a0 :: zz (zz (zz (zz (zz (zz (zz (zz (zz (zz (zz (zz (zz (zz (zz (zz ([]))))))))))))))))
abbrev sh20_7 (a0 a1 a2 a3 : PV) : List PV := z :: z :: a0 :: z :: z :: z :: z :: a1 :: zz (z :: z :: z :: z :: z :: z :: z :: a2 :: a3 :: zz (z :: z :: []))
abbrev se20_7 (a0 a1 : PV) : List PV := z :: z :: a0 :: z :: z :: z :: z :: a1 :: zz (zz (zz (z :: z :: z :: [])))
abbrev sh21_2 (a0 a1 a2 a3 : PV) : List PV := a0 :: a1 :: z :: z :: z :: z :: z :: a2 :: a3 :: zz (zz (z :: z :: z :: z :: z :: z :: z :: []))
abbrev se21_2 (a0 a1 a2 : PV) : List PV := a0 :: a1 :: z :: z :: a2 :: zz (zz (zz (z :: z :: z :: [])))
abbrev sh25_5 (a0 a1 a2 a3 a4 : PV) : List PV := z :: a0 :: a1 :: zz (zz (zz (z :: z :: z :: z :: z :: z :: a2 :: a3 :: a4 :: zz (z :: []))))
abbrev se25_5 (a0 : PV) : List PV := z :: z :: z :: z :: z :: z :: a0 :: zz (zz (zz (zz (z :: z :: z :: z :: z :: z :: []))))
abbrev sh39_2 (a0 a1 a2 a3 : PV) : List PV := z :: a0 :: z :: z :: z :: z :: z :: z :: a1 :: a2 :: a3 :: zz (z :: z :: [])
abbrev se39_2 (a0 : PV) : List PV := z :: z :: z :: z :: a0 :: zz (zz ([]))
abbrev sh40_7 (a0 a1 a2 a3 a4 a5 a6 a7 a8 : PV) : List PV := z :: a0 :: a1 :: z :: z :: a2 :: z :: a3 :: a4 :: a5 :: zz (z :: z :: z :: a6 :: a7 :: a8 :: zz (zz (zz (zz (zz (zz (zz (zz (zz (zz (zz (zz (z :: z :: z :: z :: z :: z :: [])))))))))))))
abbrev se40_7 (a0 a1 a2 a3 a4 a5 : PV) : List PV := z :: a0 :: a1 :: z :: z :: a2 :: z :: a3 :: a4 :: a5 :: zz (zz (zz (zz (zz (zz (zz (zz (zz (zz (zz (zz (zz (zz (z :: z :: z :: z :: []))))))))))))))
abbrev sh41_4 (a0 a1 a2 a3 : PV) : List PV := z :: z :: a0 :: z :: z :: a1 :: zz (z :: z :: z :: a2 :: a3 :: zz (zz (z :: z :: z :: z :: [])))
abbrev se41_4 (a0 : PV) : List PV := z :: z :: z :: z :: z :: a0 :: zz (zz (zz (zz (z :: []))))
abbrev sh41_6 (a0 a1 a2 a3 a4 a5 a6 : PV) : List PV := z :: z :: a0 :: z :: z :: a1 :: zz (z :: z :: z :: a2 :: a3 :: z :: z :: a4 :: a5 :: a6 :: zz (z :: z :: z :: z :: z :: z :: z :: []))
abbrev se41_6 (a0 a1 a2 a3 : PV) : List PV := z :: z :: a0 :: z :: z :: a1 :: zz (z :: z :: z :: a2 :: a3 :: zz (zz (z :: z :: z :: z :: [])))
abbrev sh54_3 (a0 a1 a2 a3 a4 : PV) : List PV := z :: a0 :: z :: z :: z :: a1 :: z :: z :: z :: a2 :: a3 :: a4 :: zz (z :: z :: z :: z :: z :: z :: [])
abbrev se54_3 (a0 : PV) : List PV := z :: z :: z :: z :: z :: a0 :: zz (zz (z :: z :: z :: z :: []))
abbrev sh55_3 (a0 a1 a2 a3 a4 : PV) : List PV := z :: a0 :: z :: z :: z :: a1 :: z :: z :: z :: a2 :: a3 :: a4 :: zz (z :: z :: z :: z :: z :: z :: [])
abbrev se55_3 (a0 : PV) : List PV := z :: z :: z :: z :: z :: a0 :: zz (zz (z :: z :: z :: z :: []))
abbrev sh62_2 (a0 a1 a2 : PV) : List PV := a0 :: zz (z :: a1 :: a2 :: zz (zz (zz (zz (zz (zz (zz (zz (zz (z :: z :: []))))))))))
abbrev se62_2 (a0 : PV) : List PV := z :: z :: a0 :: zz (zz (zz (zz (zz (zz (zz (zz (zz (zz (z :: z :: z :: []))))))))))
abbrev sh63_2 (a0 a1 a2 : PV) : List PV := a0 :: zz (zz (z :: z :: a1 :: a2 :: zz (zz (zz (zz (zz (zz (zz (zz (zz (zz (zz (zz (zz (z :: z :: z :: z :: z :: [])))))))))))))))
abbrev se63_2 (a0 : PV) : List PV := z :: z :: a0 :: zz (zz (zz (zz (zz (zz (zz (zz (zz (zz (zz (zz (zz (zz (zz (z :: z :: z :: z :: z :: z :: z :: [])))))))))))))))
abbrev sh63_15 (a0 a1 a2 a3 a4 a5 a6 a7 a8 a9 : PV) : List PV := a0 :: z :: z :: a1 :: a2 :: z :: a3 :: z :: z :: a4 :: a5 :: a6 :: zz (zz (zz (zz (zz (zz (zz (z :: z :: z :: a7 :: a8 :: a9 :: zz (zz (zz (zz (zz (zz (zz ([]))))))))))))))
abbrev se63_15 (a0 a1 a2 a3 a4 a5 : PV) : List PV := a0 :: z :: z :: a1 :: z :: z :: a2 :: z :: z :: a3 :: a4 :: a5 :: zz (zz (zz (zz (zz (zz (zz (zz (zz (zz (zz (zz (zz (zz (z :: z :: z :: z :: z :: z :: []))))))))))))))
abbrev sh64_2 (a0 a1 a2 : PV) : List PV := a0 :: zz (zz (z :: z :: z :: z :: a1 :: a2 :: zz (zz (zz (zz (zz (zz (zz (zz (zz (zz (zz (zz (zz (zz (zz (zz (zz (z :: z :: z :: [])))))))))))))))))))
abbrev se64_2 (a0 : PV) : List PV := z :: z :: a0 :: zz (zz (zz (zz (zz (zz (zz (zz (zz (zz (zz (zz (zz (zz (zz (zz (zz (zz (zz (z :: z :: z :: z :: z :: z :: z :: [])))))))))))))))))))
abbrev sh64_18 (a0 a1 a2 a3 a4 a5 a6 a7 a8 a9 : PV) : List PV := a0 :: z :: z :: a1 :: z :: z :: a2 :: z :: z :: a3 :: z :: z :: a4 :: a5 :: a6 :: zz (zz (zz (zz (zz (zz (zz (zz (zz (zz (zz (zz (zz (z :: z :: z :: z :: z :: a7 :: a8 :: a9 :: zz (zz (zz (zz (z :: z :: z :: [])))))))))))))))))
abbrev se64_18 (a0 a1 a2 a3 a4 a5 a6 : PV) : List PV := a0 :: z :: z :: a1 :: z :: z :: a2 :: z :: z :: a3 :: z :: z :: a4 :: a5 :: a6 :: zz (zz (zz (zz (zz (zz (zz (zz (zz (zz (zz (zz (zz (zz (zz (zz (zz (zz (z :: z :: z :: []))))))))))))))))))
abbrev sh71_3 (a0 a1 a2 a3 : PV) : List PV := z :: z :: z :: a0 :: z :: z :: z :: a1 :: a2 :: a3 :: zz (z :: z :: [])
abbrev se71_3 (a0 : PV) : List PV := z :: z :: z :: a0 :: zz (zz ([]))
abbrev sh76_3 (a0 a1 a2 a3 : PV) : List PV := z :: a0 :: zz (a1 :: a2 :: a3 :: z :: z :: z :: z :: z :: z :: z :: [])
abbrev se76_3 : List PV := zz (zz (z :: z :: z :: z :: []))
abbrev sh77_9 (a0 a1 a2 a3 a4 a5 : PV) : List PV := z :: a0 :: a1 :: a2 :: zz (z :: z :: z :: z :: z :: z :: z :: a3 :: a4 :: a5 :: zz (zz (z :: z :: [])))
abbrev se77_9 (a0 a1 : PV) : List PV := z :: z :: a0 :: a1 :: zz (zz (zz (zz (z :: z :: z :: z :: []))))
abbrev sh81_2 (a0 a1 a2 a3 : PV) : List PV := a0 :: a1 :: z :: z :: z :: z :: z :: a2 :: a3 :: zz (z :: z :: [])
abbrev se81_2 (a0 : PV) : List PV := z :: z :: z :: z :: a0 :: zz (z :: z :: z :: z :: z :: z :: [])
abbrev sh89_3 (a0 a1 a2 a3 : PV) : List PV := z :: a0 :: zz (zz (zz (z :: a1 :: a2 :: a3 :: zz (zz (z :: z :: z :: z :: [])))))
abbrev se89_3 : List PV := zz (zz (zz (zz (zz (zz (z :: z :: []))))))
abbrev sh93_3 (a0 a1 a2 a3 a4 a5 a6 a7 : PV) : List PV := a0 :: a1 :: a2 :: z :: z :: z :: a3 :: a4 :: zz (z :: z :: z :: z :: z :: z :: a5 :: a6 :: a7 :: zz (zz (zz (zz (zz (zz (zz (z :: z :: z :: z :: z :: z :: []))))))))
abbrev se93_3 (a0 a1 a2 a3 : PV) : List PV := a0 :: z :: a1 :: z :: z :: z :: a2 :: a3 :: zz (zz (zz (zz (zz (zz (zz (zz (zz (z :: z :: z :: z :: z :: z :: z :: [])))))))))
abbrev sh93_11 (a0 a1 a2 a3 a4 a5 a6 a7 : PV) : List PV := a0 :: z :: a1 :: z :: z :: z :: a2 :: a3 :: z :: z :: a4 :: zz (zz (zz (zz (z :: z :: z :: a5 :: a6 :: a7 :: zz (zz (zz (zz (z :: z :: z :: z :: z :: z :: []))))))))
abbrev se93_11 (a0 a1 a2 : PV) : List PV := a0 :: z :: z :: z :: z :: z :: z :: a1 :: z :: z :: a2 :: zz (zz (zz (zz (zz (zz (zz (zz (zz (z :: z :: z :: z :: [])))))))))
abbrev sh95_3 (a0 a1 a2 a3 a4 a5 a6 : PV) : List PV := a0 :: a1 :: a2 :: z :: z :: z :: z :: z :: z :: a3 :: z :: z :: z :: z :: z :: z :: a4 :: a5 :: a6 :: zz (zz (zz (zz (zz (zz (z :: z :: z :: []))))))
abbrev se95_3 (a0 a1 a2 a3 a4 a5 a6 : PV) : List PV := a0 :: a1 :: a2 :: z :: z :: z :: a3 :: a4 :: a5 :: a6 :: zz (zz (zz (zz (zz (zz (zz (z :: z :: z :: z :: [])))))))
abbrev sh96_2 (a0 a1 a2 a3 a4 : PV) : List PV := a0 :: z :: a1 :: zz (z :: a2 :: a3 :: a4 :: zz (zz (zz (zz (zz (z :: z :: z :: z :: z :: []))))))
abbrev se96_2 (a0 : PV) : List PV := z :: z :: z :: z :: z :: z :: a0 :: zz (zz (zz (zz (zz (zz (z :: z :: z :: z :: z :: []))))))
abbrev sh107_3 (a0 a1 a2 a3 a4 : PV) : List PV := a0 :: z :: a1 :: z :: z :: z :: z :: a2 :: z :: a3 :: a4 :: zz (z :: z :: z :: z :: z :: [])
abbrev se107_3 (a0 : PV) : List PV := z :: z :: z :: z :: z :: z :: z :: a0 :: zz (zz ([]))
abbrev sh113_3 (a0 a1 a2 a3 : PV) : List PV := z :: z :: a0 :: a1 :: z :: z :: z :: a2 :: a3 :: zz (zz (zz (zz (zz (zz (zz (z :: z :: z :: z :: [])))))))
abbrev se113_3 (a0 : PV) : List PV := z :: z :: z :: z :: z :: z :: z :: a0 :: zz (zz (zz (zz (zz (zz (zz (z :: z :: z :: z :: z :: [])))))))
abbrev sh113_9 (a0 a1 a2 a3 a4 a5 a6 a7 : PV) : List PV := z :: z :: a0 :: a1 :: z :: z :: z :: a2 :: a3 :: a4 :: zz (zz (zz (a5 :: a6 :: a7 :: zz (zz (zz (zz ([])))))))
abbrev se113_9 (a0 a1 a2 a3 : PV) : List PV := z :: z :: a0 :: a1 :: z :: z :: z :: a2 :: a3 :: zz (zz (zz (zz (zz (zz (zz (z :: z :: z :: z :: [])))))))
abbrev sh121_3 (a0 a1 a2 a3 a4 a5 a6 : PV) : List PV := z :: z :: a0 :: a1 :: z :: a2 :: a3 :: z :: z :: z :: a4 :: a5 :: a6 :: zz (zz (zz (zz (zz (zz (zz (z :: z :: z :: z :: z :: z :: z :: [])))))))
abbrev se121_3 (a0 a1 a2 a3 : PV) : List PV := z :: z :: z :: a0 :: a1 :: a2 :: a3 :: zz (zz (zz (zz (zz (zz (zz (zz (z :: z :: z :: z :: z :: []))))))))
abbrev sh122_2 (a0 a1 a2 a3 : PV) : List PV := a0 :: a1 :: z :: z :: z :: z :: z :: a2 :: a3 :: zz (z :: z :: [])
abbrev se122_2 (a0 : PV) : List PV := z :: z :: z :: z :: a0 :: zz (z :: z :: z :: z :: z :: z :: [])
abbrev sh123_3 (a0 a1 a2 a3 a4 : PV) : List PV := z :: a0 :: z :: z :: z :: a1 :: z :: z :: z :: a2 :: a3 :: a4 :: zz (z :: z :: z :: z :: z :: [])
abbrev se123_3 (a0 : PV) : List PV := z :: z :: z :: z :: z :: a0 :: zz (zz (z :: z :: z :: []))
abbrev sh128_3 (a0 a1 a2 a3 a4 : PV) : List PV := z :: a0 :: z :: z :: z :: a1 :: z :: z :: z :: z :: z :: a2 :: a3 :: a4 :: zz (z :: z :: z :: z :: z :: [])
abbrev se128_3 (a0 : PV) : List PV := z :: z :: z :: z :: z :: a0 :: zz (zz (z :: z :: z :: z :: z :: []))
abbrev sh137_6 (a0 a1 a2 a3 a4 a5 a6 a7 a8 : PV) : List PV := z :: z :: a0 :: z :: z :: a1 :: a2 :: a3 :: a4 :: a5 :: zz (zz (a6 :: a7 :: a8 :: zz (zz (zz (zz (zz (zz (zz (zz (zz (zz (zz (z :: z :: z :: z :: z :: [])))))))))))))
abbrev se137_6 (a0 a1 a2 a3 a4 : PV) : List PV := z :: z :: z :: z :: z :: a0 :: a1 :: a2 :: a3 :: a4 :: zz (zz (zz (zz (zz (zz (zz (zz (zz (zz (zz (zz (zz (zz ([]))))))))))))))
abbrev sh138_2 (a0 a1 a2 a3 : PV) : List PV := a0 :: a1 :: z :: z :: z :: z :: z :: a2 :: a3 :: zz (z :: z :: [])
abbrev se138_2 (a0 : PV) : List PV := z :: z :: z :: z :: a0 :: zz (z :: z :: z :: z :: z :: z :: [])
abbrev sh142_3 (a0 a1 a2 a3 : PV) : List PV := z :: z :: z :: a0 :: zz (z :: z :: z :: a1 :: a2 :: a3 :: zz (z :: z :: z :: z :: z :: z :: []))
abbrev se142_3 (a0 : PV) : List PV := z :: z :: a0 :: zz (zz (zz (z :: z :: z :: z :: z :: [])))
abbrev sh159_3 (a0 a1 a2 a3 : PV) : List PV := z :: z :: z :: a0 :: z :: z :: z :: z :: a1 :: a2 :: a3 :: zz (z :: z :: z :: z :: [])
abbrev se159_3 (a0 : PV) : List PV := z :: z :: z :: a0 :: zz (zz (z :: z :: z :: []))
abbrev sh160_6 (a0 a1 a2 : PV) : List PV := zz (zz (zz (zz (zz (zz (zz (a0 :: a1 :: a2 :: z :: z :: z :: z :: z :: z :: z :: [])))))))
abbrev se160_6 (a0 : PV) : List PV := z :: z :: a0 :: zz (zz (zz (zz (zz (zz (zz (z :: z :: z :: z :: z :: z :: z :: [])))))))
abbrev sh177_2 (a0 a1 a2 a3 : PV) : List PV := a0 :: a1 :: z :: z :: z :: z :: z :: a2 :: a3 :: zz (z :: z :: [])
abbrev se177_2 (a0 : PV) : List PV := z :: z :: z :: z :: a0 :: zz (z :: z :: z :: z :: z :: z :: [])
end
theorem u0 : type_of% @cond3.eq_def := @cond3.eq_def
theorem u1 : type_of% @bagRes.eq_def := @bagRes.eq_def
theorem u2 : type_of% @bagOut.eq_def := @bagOut.eq_def
theorem u3 : type_of% @bagStore.eq_def := @bagStore.eq_def
theorem u4 : type_of% @isNilC.eq_def := @isNilC.eq_def
theorem u5 : type_of% @aNil.eq_def := @aNil.eq_def
theorem u6 : type_of% @D.nilQ.eq_def := @D.nilQ.eq_def
theorem u7 : type_of% @nilRes.eq_def := @nilRes.eq_def
theorem u8 : type_of% @isFnCall.eq_def := @isFnCall.eq_def
theorem u9 : type_of% @isTake.eq_def := @isTake.eq_def
theorem u10 : type_of% @tvOf.eq_def := @tvOf.eq_def
theorem u11 : type_of% @plainOp.eq_def := @plainOp.eq_def
theorem u12 : type_of% @plainV.eq_def := @plainV.eq_def
theorem u13 : type_of% @bagVal.eq_def := @bagVal.eq_def
theorem u14 : type_of% @bagCells.eq_def := @bagCells.eq_def
theorem u15 : type_of% @bagBox.eq_def := @bagBox.eq_def
theorem u16 : type_of% @fetch.eq_def := @fetch.eq_def
theorem u17 : type_of% @takeAt.eq_def := @takeAt.eq_def
theorem u18 : type_of% @moveTup.eq_def := @moveTup.eq_def
theorem u19 : type_of% @PV.ofValue.eq_def := @PV.ofValue.eq_def
theorem u20 : type_of% @D.ofCell.eq_def := @D.ofCell.eq_def
theorem u21 : type_of% @isTmp.eq_def := @isTmp.eq_def
theorem u22 : type_of% @PV.maySrc.eq_def := @PV.maySrc.eq_def
theorem u23 : type_of% @aBin.eq_def := @aBin.eq_def
theorem u24 : type_of% @eqCell.eq_def := @eqCell.eq_def
theorem u25 : type_of% @binLit.eq_def := @binLit.eq_def
theorem u26 : type_of% @eqKind.eq_def := @eqKind.eq_def
theorem u27 : type_of% @abool.eq_def := @abool.eq_def
theorem u28 : type_of% @aint.eq_def := @aint.eq_def
theorem u29 : type_of% @aUn.eq_def := @aUn.eq_def
theorem u30 : type_of% @okRes.eq_def := @okRes.eq_def
theorem u31 : type_of% @okAl.eq_def := @okAl.eq_def
theorem u32 : type_of% @tupOf.eq_def := @tupOf.eq_def
theorem u33 : type_of% @PV.noPtr.eq_def := @PV.noPtr.eq_def
theorem u34 : type_of% @PV.isDat.eq_def := @PV.isDat.eq_def
theorem u35 : type_of% @PV.isOwn.eq_def := @PV.isOwn.eq_def
theorem u36 : type_of% @PV.strip.eq_def := @PV.strip.eq_def
theorem u37 : type_of% @freezeC.eq_def := @freezeC.eq_def
theorem u38 : type_of% @PV.frz.eq_def := @PV.frz.eq_def
theorem u39 : type_of% @PV.frozen.eq_def := @PV.frozen.eq_def
theorem u40 : type_of% @eqRes.eq_def := @eqRes.eq_def
theorem u41 : type_of% @noCellAl.eq_def := @noCellAl.eq_def
theorem u42 : type_of% @addOff.eq_def := @addOff.eq_def
theorem u43 : type_of% @rdV.eq_def := @rdV.eq_def
theorem u44 : type_of% @lenV.eq_def := @lenV.eq_def
theorem u45 : type_of% @maxV.eq_def := @maxV.eq_def
theorem u46 : type_of% @ptrBox.eq_def := @ptrBox.eq_def
theorem u47 : type_of% @frzOut.eq_def := @frzOut.eq_def
theorem u48 : type_of% @frzIf.eq_def := @frzIf.eq_def
theorem u49 : type_of% @aopT1.eq_def := @aopT1.eq_def
theorem u50 : type_of% @refLt.eq_def := @refLt.eq_def
theorem u51 : type_of% @TK.isAgg.eq_def := @TK.isAgg.eq_def
theorem u52 : type_of% @Value.oneCell'.eq_def := @Value.oneCell'.eq_def
theorem es {j : Job} {r : Out} (h : stepJ (ev cfg) cfg j = some r) : ev cfg j = some r := ev_step cfg h
end Go.Proofs.YtifckjhggamefaaGreatDoor
