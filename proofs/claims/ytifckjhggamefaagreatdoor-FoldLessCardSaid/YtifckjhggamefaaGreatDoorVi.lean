/- The abstract interpreter of the model's code, and its soundness: a part. No condition. -/
import Derived.Test.YtifckjhggamefaaGreatDoorVh
import Derived.Shelf.Slices.CompactI
import Derived.Shelf.Sort.Plain
import Derived.Shelf.Slices.In.SortNone
set_option linter.unusedSimpArgs false
set_option linter.unusedVariables false
set_option linter.unusedSectionVars false
namespace Go.Vx
open Go Go.Sort Go.Shelf Go.Proofs
variable {P : Program} {ρ : Ren}
theorem compact_ok (L : Lays2.n20 P ρ) (hn : (Body2.n20 ρ).name = "slices.Compact[[]int,int]") (hb : (Body2.n20 ρ).body.isSome = true) : IntsOk P (ρ.f 20) (fun a cap zs => .slice a (Lib.compact zs).length cap) compNew := by
 refine ⟨⟨_,L.f20,by rw [hn]; rfl,hb⟩,fun a w => ?_,fun b off cap zs cur T w hh hc hl hm hf h62 => ?_⟩
 ·exact Any.slices_Compact_int_empty L a 0 w
 ·refine (Any.slices_Compact_int L b off cap zs w (holds_of hh hc) (by unfold maxLen at hm; omega) hl).mono fun e w' he => ?_
  obtain ⟨rfl,q,e⟩ := he
  refine ⟨rfl,?_⟩
  have hlen := compNew_len zs
  refine wrote_of (vs := compNew zs) (n := q) (os := #[]) hh (by rw [hlen]; exact hf) ?_
  rw [e,grow_empty]
  rfl
end Go.Vx
namespace Go.Vx
open Go Go.Sort Go.Shelf Go.Proofs
variable {P : Program} {ρ : Ren}
theorem sort_ok (L : Lays.n189 P ρ) (hn : (Body.n189 ρ).name = "slices.Sort[[]int,int]") (hb : (Body.n189 ρ).body.isSome = true) : IntsOk P (ρ.f 189) (fun _ _ _ => .tuple #[]) sortI := by
 refine ⟨⟨_,L.f189,by rw [hn]; rfl,hb⟩,fun a w => ?_,fun b off cap zs cur T w hh hc hl hm hf h62 => ?_⟩
 ·exact Any.slices_Sort_int_none L a 0 w
 ·have hlt : b < w.heap.size := (Array.getElem?_eq_some_iff.1 hh).1
  refine (Any.slices_Sort_int L b off cap zs w (holds_of hh hc) hlt h62).mono fun e w' he => ?_
  obtain ⟨rfl,q,os,e⟩ := he
  exact ⟨rfl,wrote_of (vs := sortI zs) (n := q) (os := os) hh (by rw [sortI_len]; exact hf) e⟩
end Go.Vx
