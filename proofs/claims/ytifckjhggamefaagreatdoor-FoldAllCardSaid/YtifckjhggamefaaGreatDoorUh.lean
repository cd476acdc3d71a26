/- The abstract interpreter of the model's code, and its soundness: a part. No condition. -/
import Derived.Test.YtifckjhggamefaaGreatDoorUe
import Derived.Sort.Grow
import Derived.Sort.Row
set_option linter.unusedSimpArgs false
set_option linter.unusedVariables false
set_option linter.unusedSectionVars false
namespace Go.Vx
open Go Go.Sort
theorem putCells_eq (vs : List Int) (off : Nat) (cur : Array Value) (h : off + vs.length <= cur.size) : putCells (Value.int .i64) off vs.toArray cur = (setCells cur.toList off (vs.map (.int .i64))).toArray := by
 have hfit : off + (vs.map (Value.int .i64)).length <= cur.toList.length := by simpa using h
 apply Array.ext_getElem?
 intro j
 have e : (setCells cur.toList off (vs.map (Value.int .i64))).toArray[j]? = (setCells cur.toList off (vs.map (Value.int .i64)))[j]? := by simp
 rw [e,setCells_get hfit]
 simp only [putCells,Array.getElem?_mapIdx,List.length_map,List.size_toArray]
 by_cases hc : off <= j /\ j < off + vs.length
 ·have hj : j < cur.size := by omega
  have hv : j - off < vs.length := by omega
  rw [if_pos hc,agg hj]
  simp [hc,hv]
 ·rw [if_neg hc,Array.getElem?_toList]
  cases cur[j]? with
  | none => rfl
  | some x => simp [hc]
theorem wrote_of {b off : Nat} {vs : List Int} {cur : Array Value} {T : TypeId} {w w' : World} {n : Nat} {os : Array Obj} (hb : w.heap[b]? = some (.cells cur T (0,0))) (h : off + vs.length <= cur.size)
  (e : w' = grow (putRow (Value.int .i64) (Sort.ahead w n) b off vs.toArray) os) : Wrote b off (vs.map (.int .i64)) cur T w w' := by
 have hlt : b < w.heap.size := (Array.getElem?_eq_some_iff.1 hb).1
 have hp : (putRow (Value.int .i64) (Sort.ahead w n) b off vs.toArray).heap = w.heap.modify b (onCells (putCells (Value.int .i64) off vs.toArray)) := rfl
 subst e
 refine ⟨rfl,rfl,rfl,?_,fun k hk hne => ?_,?_⟩
 ·simp only [grow,hp,Array.size_append,Array.size_modify]; omega
 ·simp only [grow,hp]
  rw [Array.getElem?_append_left (by simpa using hk),Array.getElem?_modify,if_neg (Ne.symm hne)]
 ·simp only [grow,hp]
  rw [Array.getElem?_append_left (by simpa using hlt),Array.getElem?_modify,if_pos rfl,hb]
  simp only [Option.map_some,onCells]
  rw [putCells_eq vs off cur h]
theorem holds_of {b off : Nat} {zs : List Int} {cur : Array Value} {T : TypeId} {w : World} (hb : w.heap[b]? = some (.cells cur T (0,0))) (h : ∀ (j : Nat) z,zs[j]? = some z -> cur[off + j]? = some (.int .i64 z)) :
  Holds (Value.int .i64) w b off zs.toArray := by
 intro j hj
 have hj' : j < zs.length := by simpa using hj
 have h1 := h j zs[j] (gge hj')
 refine ⟨?_,?_⟩
 ·rw [cell_of_heap hb,h1]
  simp [hj']
 ·simp [World.frozen?,hb]
end Go.Vx
