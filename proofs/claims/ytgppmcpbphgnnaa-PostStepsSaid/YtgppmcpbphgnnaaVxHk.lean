/- What the calls that are not walked do: an office's. No condition. -/
import Derived.Test.YtgppmcpbphgnnaaChecked
import Derived.Test.YtgppmcpbphgnnaaVxLay
import Derived.Test.YtgppmcpbphgnnaaVe
import Derived.Test.YtgppmcpbphgnnaaVh
import Derived.Shelf.SlMaps.Clone
import Derived.Shelf.SlIterI.Nil
import Derived.Shelf.Sort.Plain
import Derived.Shelf.Slices.In.SortNone
import Derived.Tactics
import Derived.Tactics2
import Derived.Carry
set_option linter.unusedSimpArgs false
set_option linter.unusedVariables false
set_option linter.unusedSectionVars false
namespace Go.Proofs.Ytgppmcpbphgnnaa
open Go Go.Vx

theorem newMapBox_of {w : World} {es : Array MapEntry} {clock : Nat} {T : TypeId} {w' : World} (hS : MapKept.Stamped es clock) (h : w' = (w.alloc (.map es clock)).alloc (.cells #[.map (some w.heap.size)] T)) :
    NewMapBox w w' (.pointer (some ⟨w.heap.size + 1, 0, none⟩)) es := by
  subst h
  have h1 : ((w.alloc (.map es clock)).alloc (.cells #[.map (some w.heap.size)] T)).heap = (w.heap.push (.map es clock)).push (.cells #[.map (some w.heap.size)] T) := rfl
  refine ⟨w.heap.size + 1, w.heap.size, rfl, ⟨rfl, rfl, rfl, by rw [h1]; simp; omega, fun k hk => ?_⟩, by omega, by omega, by omega, T, clock, ?_, ?_, hS⟩
  · rw [h1, Array.getElem?_push, if_neg (by simp; omega), Array.getElem?_push, if_neg (by omega)]
  · rw [h1, Array.getElem?_push, if_pos (by simp)]
  · rw [h1, Array.getElem?_push, if_neg (by simp), Array.getElem?_push, if_pos rfl]

theorem build51 (w : World) (m : Nat) : (Instr.build 51 #[(0, .map (some m))]).run Try.prog w = .ok (.agg #[.map (some m)]) w := by
  have h1 := run_underlying Try.underlying51
  simp [Instr.build, h1, Try.zeroValue51, go_sem]

theorem hook8_ok : HookFn Try.prog 8 (.mapNew 4) := by
  refine ⟨⟨_, Try.func8, by kernel_rfl, by kernel_rfl⟩, fun w => ?_⟩
  have hmm := @RowKit.run_makeMap Try.prog
  have hbb := build51
  go_enter Try.func8, Try.ntmps8
  go_wp2
  go_ret
  exact ⟨_, rfl, newMapBox_of (MapKept.stamped_empty 0) rfl⟩

theorem copy_call (b : Nat) (es : Array MapEntry) (clock : Nat) (w : World) (hb : w.heap[b]? = some (.map es clock)) :
    Calls Try.prog 26 #[.map (some b)] w fun e w' => e = .returned (.map (some w.heap.size)) ∧ w' = w.alloc (.map es clock) := AnyW.maps_Clone cloneL b es clock w hb

theorem hook14_ok : HookFn Try.prog 14 .mapCopy := by
  refine ⟨⟨_, Try.func14, by kernel_rfl, by kernel_rfl⟩, fun w => ?_, fun b mb es w h => ?_⟩
  · go_enter Try.func14, Try.ntmps14
    go_wp2
    go_ret
    exact ⟨rfl, rfl⟩
  · obtain ⟨T, clock, h1, h2, h3⟩ := h
    have hc : w.cell? ⟨b, 0, none⟩ = some (.map (some mb)) := by rw [Vx.cell_of_heap h1]; rfl
    have hbb := build51
    have cC := copy_call mb es clock w h2
    go_enter Try.func14, Try.ntmps14
    go_wp2_with (go_at_call 26; refine cC.mono ?_; rintro e w' ⟨rfl, rfl⟩)
    go_ret
    exact ⟨_, rfl, newMapBox_of h3 rfl⟩

open Go.Sort Go.Maps Go.WideElems

/-- slices.Sort's two contracts at this program, at the fence that asks nothing. -/
theorem sorts_here (m : Nat) : AnyZI.SortsIn Try.prog sortedL_ren Fence.wide m :=
  ⟨fun blk off cap ss W hH hblk hsz => callsIn_wide.2 (Any.slices_Sort_int sortL blk off cap ss W hH hblk hsz),
   fun p cap W => callsIn_wide.2 (Any.slices_Sort_int_none sortL p cap W)⟩

def oneR (_ : Value) : Option (DataW Unit × List MemPlace) := some (.lit (.bool true), [])

theorem keys_own {w : World} {mb : Nat} {es : Array MapEntry} {clock : Nat} {ks : List Int} (h2 : w.heap[mb]? = some (.map es clock)) (h3 : MapKept.Stamped es clock) (hk : es.toList.map (·.key) = ks.map (.int .i64)) (hr : ∀ k ∈ ks, -9223372036854775808 ≤ k ∧ k ≤ 9223372036854775807) (hl : ks.length ≤ 1000) :
    ∃ D : DataW Unit, w.ownsMap Try.prog 3 oneR mb es.size D ∧ (intKeys D).Perm ks ∧ Maps.size D = ks.length := by
  have hlen : es.size = ks.length := by have := congrArg List.length hk; simpa using this
  have hkey : ∀ x ∈ es.toList, ∃ k ∈ ks, x.key = .int .i64 k := by
    intro x hx
    have : x.key ∈ es.toList.map (·.key) := List.mem_map.2 ⟨x, hx, rfl⟩
    rw [hk] at this
    obtain ⟨k, h1, h2⟩ := List.mem_map.1 this
    exact ⟨k, h1, h2.symm⟩
  have hkk : ∀ k ∈ ks, keyOf Try.prog 3 (.int .i64 k) = some (.int .i64 k) := fun k hk => keyOf_int_mk Try.underlying3 (by
    obtain ⟨q1, q2⟩ := hr k hk
    simp [Lit.wf, IntKind.min, IntKind.max, IntKind.signed, IntKind.bits]
    omega)
  have hrd : ∀ x ∈ es.toList, ∃ k, x.key = .int .i64 k ∧ WideElems.rd Try.prog 3 oneR x = some (.int .i64 k, .lit (.bool true)) := by
    intro x hx
    obtain ⟨k, h1, h2⟩ := hkey x hx
    refine ⟨k, h2, ?_⟩
    simp [WideElems.rd, h2, hkk k h1, oneR]
  refine ⟨_, ⟨es, clock, h2, ⟨by rw [hlen]; unfold maxLen; omega, h3, fun x hx => let ⟨k, _, h⟩ := hrd x hx; ⟨_, h⟩⟩, Nat.le_refl _, rfl⟩, ?_, ?_⟩
  · simp only [intKeys]
    refine ((WideShapes.sorted_perm _).map _).trans ?_
    have : (es.toList.map (rg Try.prog 3 oneR)).map (fun p => _root_.Go.intOf p.1) = ks := by
      have e1 : es.toList.map (fun x => _root_.Go.intOf (rg Try.prog 3 oneR x).1) = es.toList.map fun x => (match x.key with | .int _ a => a | _ => 0) := by
        refine List.map_congr_left fun x hx => ?_
        obtain ⟨k, h1, h2⟩ := hrd x hx
        simp [rg, h2, _root_.Go.intOf, h1]
      rw [List.map_map]
      show es.toList.map (fun x => _root_.Go.intOf (rg Try.prog 3 oneR x).1) = ks
      rw [e1]
      have e2 : (es.toList.map (·.key)).map (fun v => (match v with | .int _ a => a | _ => 0)) = ks := by
        rw [hk, List.map_map]
        show ks.map (fun k => k) = ks
        simp
      rw [List.map_map] at e2
      exact e2
    rw [this]
  · simp [Maps.size, length_sorted, hlen]

theorem sort_perm {a b : List Int} (h : a.Perm b) : sortI a = sortI b := by
  have s1 : (sortI a).Pairwise (· ≤ ·) := (List.pairwise_mergeSort (le := fun x y : Int => decide (x ≤ y)) (fun a b c h1 h2 => by simp only [decide_eq_true_eq] at *; omega) (fun a b => by simp only [Bool.or_eq_true, decide_eq_true_eq]; omega) a).imp fun h => by simpa using h
  have s2 : (sortI b).Pairwise (· ≤ ·) := (List.pairwise_mergeSort (le := fun x y : Int => decide (x ≤ y)) (fun a b c h1 h2 => by simp only [decide_eq_true_eq] at *; omega) (fun a b => by simp only [Bool.or_eq_true, decide_eq_true_eq]; omega) b).imp fun h => by simpa using h
  have p : (sortI a).Perm (sortI b) := (List.mergeSort_perm a _).trans (h.trans (List.mergeSort_perm b _).symm)
  exact p.eq_of_pairwise (fun x y _ _ h1 h2 => by omega) s1 s2

theorem hook13_ok : HookFn Try.prog 13 .mapKeys := by
  refine ⟨⟨_, Try.func13, by kernel_rfl, by kernel_rfl⟩, fun w => ?_, fun b mb es ks w h hk hr hl => ?_⟩
  · go_enter Try.func13, Try.ntmps13
    go_wp2
    go_ret
    exact ⟨rfl, rfl⟩
  · obtain ⟨T, clock, h1, h2, h3⟩ := h
    have hc : w.cell? ⟨b, 0, none⟩ = some (.map (some mb)) := by rw [Vx.cell_of_heap h1]; rfl
    obtain ⟨D, hown, hperm, hsize⟩ := keys_own h2 h3 hk hr hl
    have hbl := hown.lt
    refine (callsIn_wide (n := 6)).1 ?_
    have hseq : SeqGives Fence.wide 2 Try.prog 32 #[.pointer (some ⟨w.heap.size, 0, none⟩)] encZ (fun ss => ss.Perm (intKeys D)) (Maps.size D) (w.alloc (.cells #[.map (some mb)] 49)) :=
      AnyZI.keys_gives (ρ := keysL_ren) { keysL with } Fence.wide _ trivial rfl (by omega) w.heap.size mb es.size D _ (by simp) (by simp) (by
        obtain ⟨es, clock, hb, Ft, hs, hD⟩ := hown
        exact ⟨es, clock, (RowKit.Below.heap_alloc _ _ mb hbl).trans hb, Ft, hs, hD⟩)
    have cK : ∀ mb W, CallsIn Fence.wide 5 Try.prog 25 #[.map mb] W fun e w' => e = .returned (.func (.func 32) #[] #[.pointer (some ⟨W.heap.size, 0, none⟩)]) ∧ w' = W.alloc (.cells #[.map mb] 49) := fun mb W => AnyZI.keys_in keysL Fence.wide 5 trivial rfl mb W
    have cS := AnyZI.sorted_in sortedL Fence.wide 5 trivial trivial trivial trivial rfl (by omega) (sorts_here _) (enters_of Try.func31 (by kernel_rfl) rfl) 32 #[.pointer (some ⟨w.heap.size, 0, none⟩)] trivial (enters_of Try.func32 (by kernel_rfl) rfl) _ _ (by rw [hsize]; unfold maxLen; omega) (by rw [hsize]; omega) _ hseq
    change CallsIn _ _ Try.prog 24 _ _ _ at cS
    have hfK : Fence.wide.fn 25 := trivial
    have hfS : Fence.wide.fn 24 := trivial
    refine callsIn_of_wp Try.func13 rfl trivial ?_ rfl
    simp only [Try.ntmps13, List.size_toArray, List.length_cons, List.length_nil, Nat.reduceAdd, Nat.reduceSub, Array.replicate_succ, Array.replicate_zero, List.push_toArray, List.append_toArray, List.nil_append, List.cons_append]
    gi_wp2_with (first
      | (gi_at_call 25; refine (cK _ _).mono ?_; rintro e w' ⟨rfl, rfl⟩)
      | (gi_at_call 24; refine cS.mono ?_; rintro e w' ⟨v, ss, rfl, hS, hrow, hnil, hb⟩))
    go_ret
    have hp : ss.Perm ks := hS.trans hperm
    have hrow' := ownsRow_base_a hrow (show w.heap.size ≤ _ by simp)
    rw [hp.length_eq, show ss.mergeSort (fun x y => decide (x ≤ y)) = sortI ks from sort_perm hp] at hrow'
    exact ⟨v, _, rfl, ((RowKit.Below.refl _ w).alloc (Nat.le_refl _) _).trans (hb.mono (by simp)), hrow', hnil.trans ⟨fun e => by subst e; exact hp.symm.eq_nil, fun e => by subst e; exact hp.eq_nil⟩⟩
end Go.Proofs.Ytgppmcpbphgnnaa
