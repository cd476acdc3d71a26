/- The abstract interpreter of the model's code, and its soundness: a part. No condition. -/
import Derived.Test.YtifckjhggamefaaGreatDoorUh
import Derived.Shelf.Slices.CompactI
import Derived.Shelf.Sort.Plain
import Derived.Shelf.Slices.In.SortNone
import Derived.Shelf.SlicesE.IndexFunc
import Derived.Laws.IdiomCopy
import Derived.Lib.SlKept
import Derived.Lib.SliceRun
import Derived.Sort.WalkB12
import Derived.Shelf.RegionOpenPlain
set_option linter.unusedSimpArgs false
set_option linter.unusedVariables false
set_option linter.unusedSectionVars false
namespace Go.Vx
open Go Go.Sort Go.Shelf Go.Proofs
variable {P : Program} {ρ : Ren}
theorem compact_ok (L : Lays2.n20 P ρ) (hn : (Body2.n20 ρ).name = "slices.Compact[[]int,int]") (hb : (Body2.n20 ρ).body.isSome = true) : IntsOk P (ρ.f 20) (fun a cap zs => .slice a (Lib.compact zs).length cap) compNew := by
 refine ⟨⟨_,L.f20,by rw [hn]; rfl,hb⟩,fun a w => ?_,fun b off cap zs cur T w hh hc hl hm hf h62 => ?_⟩
 ·exact Any.slices_Compact_int_empty L a 0 w
 ·refine (Any.slices_Compact_int L b off cap zs w (holds_of hh hc) (by unfold maxLen at hm; omega) hl).mono fun e w' he => ?_
  obtain ⟨rfl,q,e⟩ := he
  refine ⟨rfl,?_⟩
  have hlen := compNew_len zs
  refine wrote_of (vs := compNew zs) (n := q) (os := #[]) hh (by rw [hlen]; exact hf) ?_
  rw [e,grow_empty]
  rfl
end Go.Vx
namespace Go.Vx
open Go Go.Sort Go.Shelf Go.Proofs
variable {P : Program} {ρ : Ren}
theorem sort_ok (L : Lays.n189 P ρ) (hn : (Body.n189 ρ).name = "slices.Sort[[]int,int]") (hb : (Body.n189 ρ).body.isSome = true) : IntsOk P (ρ.f 189) (fun _ _ _ => .tuple #[]) sortI := by
 refine ⟨⟨_,L.f189,by rw [hn]; rfl,hb⟩,fun a w => ?_,fun b off cap zs cur T w hh hc hl hm hf h62 => ?_⟩
 ·exact Any.slices_Sort_int_none L a 0 w
 ·have hlt : b < w.heap.size := (Array.getElem?_eq_some_iff.1 hh).1
  refine (Any.slices_Sort_int L b off cap zs w (holds_of hh hc) hlt h62).mono fun e w' he => ?_
  obtain ⟨rfl,q,os,e⟩ := he
  exact ⟨rfl,wrote_of (vs := sortI zs) (n := q) (os := os) hh (by rw [sortI_len]; exact hf) e⟩
end Go.Vx
namespace Go.Vx
open Go Go.Proofs Go.Shelf Go.RowKit Go.Lib
structure RowOk (b off : Nat) (zs : List Int) (R : List Int -> World -> Prop) : Prop where
 cells : ∀ cur w,R cur w -> cur.length = zs.length /\ ∃ cells T,w.heap[b]? = some (.cells cells T (0,0)) /\ (∀ (j : Nat) z,cur[j]? = some z -> cells[off + j]? = some (.int .i64 z)) /\ off + cur.length <= cells.size
 drew : ∀ cur w,R cur w -> R cur { w with drawn := w.drawn + 1 }
 wrote : ∀ cur cur' w w' cells T,R cur w -> cur'.length = cur.length -> w.heap[b]? = some (.cells cells T (0,0)) -> Wrote b off (cur'.map (.int .i64)) cells T w w' -> R cur' w'
theorem RowOk.drewN {b off : Nat} {zs : List Int} {R : List Int -> World -> Prop} (h : RowOk b off zs R) {cur : List Int} : ∀ (q : Nat) {w : World},R cur w -> R cur (w.drewN q)
 | 0,w,hR => hR
 | q + 1,w,hR => by
  have := h.drew cur _ (h.drewN q hR)
  exact this
theorem RowOk.cell {b off : Nat} {zs : List Int} {R : List Int -> World -> Prop} (h : RowOk b off zs R) {cur : List Int} {w : World} (hR : R cur w) {j : Nat} (hj : j < zs.length) :
  w.cell? ⟨b,off + j,none⟩ = some (.int .i64 cur[j]!) /\ w.frozen? ⟨b,off + j,none⟩ = false := by
 obtain ⟨hl,cells,T,h1,h2,h3⟩ := h.cells cur w hR
 have hj' : j < cur.length := by omega
 have hz : cur[j]? = some cur[j]! := by rw [getElem!_pos cur j hj']; exact gge hj'
 refine ⟨by rw [cell_of_heap h1]; exact h2 j _ hz,?_⟩
 simp [World.frozen?,h1]
theorem RowOk.set {b off : Nat} {zs : List Int} {R : List Int -> World -> Prop} (h : RowOk b off zs R) {cur : List Int} {w : World} (hR : R cur w) {i : Nat} (hi : i < zs.length) (z : Int) :
  R (cur.set i z) (w.setCell ⟨b,off + i,none⟩ (.int .i64 z)) := by
 obtain ⟨hl,cells,T,h1,h2,h3⟩ := h.cells cur w hR
 refine h.wrote cur (cur.set i z) w _ cells T hR (by simp) h1 ?_
 rw [setCell_eq_setRow w b (off + i) cells T (0,0) _ h1]
 refine ⟨rfl,rfl,rfl,by simp [World.setRow],fun k _ hk => setRow_other w b k _ hk,?_⟩
 have e : cells.setIfInBounds (off + i) (.int .i64 z) = (setCells cells.toList off ((cur.set i z).map (Value.int .i64))).toArray := by
  refine Array.ext' (List.ext_getElem? fun k => ?_)
  show _ = (setCells cells.toList off ((cur.set i z).map (Value.int .i64)))[k]?
  rw [Array.getElem?_toList,setCells_get (by simp; omega),Array.getElem?_setIfInBounds]
  by_cases hk : off <= k /\ k < off + ((cur.set i z).map (Value.int .i64)).length
  ·rw [if_pos hk]
   rw [List.length_map,lls] at hk
   rw [List.getElem?_map,List.getElem?_set]
   by_cases hki : i = k - off
   ·rw [if_pos (by omega),if_pos (by omega),if_pos hki,if_pos (by omega)]; rfl
   ·rw [if_neg (by omega),if_neg hki,gge (by omega)]
    have := h2 (k - off) _ (gge (show k - off < cur.length by omega))
    rw [show off + (k - off) = k by omega] at this
    rw [this]; rfl
  ·rw [if_neg hk]
   rw [List.length_map,lls] at hk
   rw [if_neg (by omega),Array.getElem?_toList]
 rw [e]
 exact setRow_heap w b cells _ T (0,0) h1
theorem RowOk.setCells {b off : Nat} {zs : List Int} {R : List Int -> World -> Prop} (h : RowOk b off zs R) : ∀ (xs : List Int) (cur : List Int) (k : Nat) (w : World),R cur w -> k + xs.length <= zs.length -> R (lay cur.toArray k xs).toList (w.setCells b (off + k) (xs.map (Value.int .i64)))
 | [],cur,k,w,hR,_ => by simpa [lay,World.setCells] using hR
 | x :: r,cur,k,w,hR,hk => by
  have hk' : k + (r.length + 1) <= zs.length := by simpa using hk
  simp only [List.map_cons,World.setCells,lay]
  rw [show off + k + 1 = off + (k + 1) by omega,List.setIfInBounds_toArray]
  exact h.setCells r (cur.set k x) (k + 1) _ (h.set hR (by omega) x) (by omega)
end Go.Vx
namespace Go.Proofs
open Go.Shelf Go.RowKit Go.Lib Go.Vx
variable {P : Program} {ρ : Ren}
set_option maxHeartbeats 2000000 in
theorem idx_R (L : SlLaysH.n6 P ρ) (p : Int -> Bool) (g : Nat) (lb : Array Value) (eg : ∀ args w,(callFunc g args).run P w = .ok (.enter g args) w) (b off c : Nat) (zs : List Int) (R : List Int -> World -> Prop) (H : RowOk b off zs R)
  (hp : ∀ w z,z ∈ zs -> R zs w -> Calls P g (#[.int .i64 z] ++ lb) w fun e w' => e = .returned (.bool (p z)) /\ R zs w') (hbig : zs.length <= 9223372036854775807) (w : World) (hR : R zs w) :
  Calls P (ρ.f 6) #[.slice (some ⟨b,off,none⟩) zs.length c,.func (.func g) #[] lb] w fun e w' => e = .returned (.int .i64 (Lib.idxBy (fun _ y => p y) zs default)) /\ R zs w' := by
 have mixed := L.mixed; have t0 := L.t0; have a0 := L.a0; have z0 := L.z0; have v0 := L.v0; have t3 := L.t3; have a3 := L.a3; have z3 := L.z3; have v3 := L.v3; have t4 := L.t4; have a4 := L.a4; have z4 := L.z4; have v4 := L.v4; have t22 := L.t22; have a22 := L.a22; have z22 := L.z22; have v22 := L.v22; have a23 := L.a23; have z23 := L.z23; have t25 := L.t25; have a25 := L.a25; have z25 := L.z25; have v25 := L.v25
 have HH : Aside (RowOk b off zs R) := H
 have HP : Aside (∀ w z,z ∈ zs -> R zs w -> Calls P g (#[.int .i64 z] ++ lb) w fun e w' => e = .returned (.bool (p z)) /\ R zs w') := hp
 have HR : Aside (R zs w) := hR
 clear hp H hR
 obtain ⟨_,_,FG⟩ := L.f6
 go_enter FG,SlBodyH.n6_ntmps ρ
 go_wp2
 go_loopg [5,8] zs.length (fun gg _ s8 wr => ∃ kk : Nat,kk <= zs.length /\ zs.length - kk <= gg /\ s8 = .int .i64 kk /\ Aside (R zs wr) /\ Aside (∀ j,j < kk -> p zs[j]! = false))
 case atStart => exact ⟨0,Nat.zero_le _,by omega,rfl,by first | exact HR | exact HH.out.drewN _ HR.out | exact HH.out.drew _ _ HR.out,fun j hj => absurd hj (Nat.not_lt_zero _)⟩
 case round =>
  obtain ⟨kk,hkk,hg,rfl,RR,A⟩ := hrel
  by_cases hlt : kk < zs.length
  ·have hltz : (kk : Int) < (zs.length : Int) := by omega
   have hcell := (HH.out.cell RR.out hlt).1
   have hmem : zs[kk]! ∈ zs := by rw [getElem!_pos zs kk hlt]; exact List.getElem_mem hlt
   generalize hy : zs[kk]! = y at hcell hmem
   have B : Aside (zs[kk]! = y) := hy
   have M : Aside (y ∈ zs) := hmem
   clear hy hmem
   cases hq : p y with
   | true =>
    go_wp2_with (go_at_fn g; refine (HP.out _ y M.out (by first | exact RR.out | exact HH.out.drewN _ RR.out | exact HH.out.drew _ _ RR.out)).mono ?_; rintro e w' ⟨rfl,R2⟩; rw [hq])
    go_ret
    refine ⟨?_,by first | exact R2 | exact HH.out.drewN _ R2 | exact HH.out.drew _ _ R2⟩
    have := Lib.idxBy_hit (fun _ y => p y) zs zs.length kk default hlt (Nat.le_refl _) (by show p zs[kk]! = true; rw [B.out]; exact hq) A.out
    rw [List.take_length] at this
    rw [this]
    rfl
   | false =>
    go_wp2_with (go_at_fn g; refine (HP.out _ y M.out (by first | exact RR.out | exact HH.out.drewN _ RR.out | exact HH.out.drew _ _ RR.out)).mono ?_; rintro e w' ⟨rfl,R2⟩; rw [hq])
    go_roundg (zs.length - (kk + 1))
    case measure => omega
    case rel =>
     refine ⟨kk + 1,by omega,by omega,by go_num,(show Aside _ from by first | exact R2 | exact HH.out.drewN _ R2 | exact HH.out.drew _ _ R2),(show Aside _ from fun j hj => ?_)⟩
     by_cases e : j = kk
     ·subst e
      rw [B.out]; exact hq
     ·exact A.out j (by omega)
  ·have hltz : ¬ (kk : Int) < (zs.length : Int) := by omega
   have : kk = zs.length := by omega
   subst this
   go_wp2
   go_ret
   refine ⟨?_,by first | exact RR.out | exact HH.out.drewN _ RR.out | exact HH.out.drew _ _ RR.out⟩
   have := Lib.idxBy_miss (fun _ y => p y) zs zs.length default A.out
   rw [List.take_length] at this
   exact congrArg (fun x : Int => Ending.returned (Value.int .i64 x)) this.symm
theorem idx_spec (p : Int -> Bool) : ∀ (l : List Int) (i : Nat),(Lib.idxByFrom (fun _ y => p y) default l i = -1 /\ ∀ j,j < l.length -> p l[j]! = false) ∨ ∃ k,k < l.length /\ Lib.idxByFrom (fun _ y => p y) default l i = ((i + k : Nat) : Int) /\ p l[k]! = true /\ ∀ j,j < k -> p l[j]! = false
 | [],_ => .inl ⟨rfl,fun j hj => absurd hj (Nat.not_lt_zero _)⟩
 | y :: r,i => by
  cases h : p y with
  | true => exact .inr ⟨0,by simp,by simp [Lib.idxByFrom,h],by simpa using h,fun j hj => absurd hj (Nat.not_lt_zero _)⟩
  | false =>
   rcases idx_spec p r (i + 1) with ⟨e,ha⟩ | ⟨k,hk,e,ht,ha⟩
   ·refine .inl ⟨(show Lib.idxByFrom (fun _ y => p y) default (y :: r) i = Lib.idxByFrom (fun _ y => p y) default r (i + 1) by simp [Lib.idxByFrom,h]).trans e,fun j hj => ?_⟩
    cases j with
    | zero => simpa using h
    | succ j => simpa using ha j (by simpa using hj)
   ·refine .inr ⟨k + 1,by simpa using hk,by simp only [Lib.idxByFrom,h]; rw [show (if false = true then (i : Int) else Lib.idxByFrom (fun _ y => p y) default r (i + 1)) = Lib.idxByFrom (fun _ y => p y) default r (i + 1) from rfl,e]; congr 1; omega,by simpa using ht,fun j hj => ?_⟩
    cases j with
    | zero => simpa using h
    | succ j => simpa using ha j (by omega)
set_option maxHeartbeats 4000000 in
set_option maxRecDepth 1000000 in
theorem del_R (L : SlLaysH.n10 P ρ) (v23 : ∀ w,(zeroValue (ρ.t 23)).run P w = .ok (.int .i64 0) w) (p : Int -> Bool) (g : Nat) (lb : Array Value) (eg : ∀ args w,(callFunc g args).run P w = .ok (.enter g args) w) (b off cap : Nat) (zs : List Int) (R : List Int -> World -> Prop) (H : RowOk b off zs R)
  (hp : ∀ cur w z,z ∈ zs -> R cur w -> Calls P g (#[.int .i64 z] ++ lb) w fun e w' => e = .returned (.bool (p z)) /\ R cur w') (hsz : zs.length <= 9223372036854775807) (hcap : zs.length <= cap) (w : World) (hR : R zs w) :
  Calls P (ρ.f 10) #[.slice (some ⟨b,off,none⟩) zs.length cap,.func (.func g) #[] lb] w fun e w' => e = .returned (.slice (some ⟨b,off,none⟩) (zs.filter fun x => !p x).length cap) ∧
   R ((zs.filter fun x => !p x) ++ List.replicate (zs.length - (zs.filter fun x => !p x).length) 0) w' := by
 have mixed := L.mixed; have t0 := L.t0; have a0 := L.a0; have z0 := L.z0; have v0 := L.v0; have t3 := L.t3; have a3 := L.a3; have z3 := L.z3; have v3 := L.v3; have t4 := L.t4; have a4 := L.a4; have z4 := L.z4; have v4 := L.v4; have t22 := L.t22; have a22 := L.a22; have z22 := L.z22; have v22 := L.v22; have a23 := L.a23; have z23 := L.z23; have t25 := L.t25; have a25 := L.a25; have z25 := L.z25; have v25 := L.v25
 have e6 : ∀ args w,(callFunc (ρ.f 6) args).run P w = .ok (.enter (ρ.f 6) args) w := L.f6.enters rfl
 have hIF := idx_R (P := P) (ρ := ρ) { L with } p g lb eg b off cap zs R H (fun w z hz hR => hp zs w z hz hR) hsz
 have HH : Aside (RowOk b off zs R) := H
 have HP : Aside (∀ cur w z,z ∈ zs -> R cur w -> Calls P g (#[.int .i64 z] ++ lb) w fun e w' => e = .returned (.bool (p z)) /\ R cur w') := hp
 have HR : Aside (R zs w) := hR
 clear hp H hR
 obtain ⟨kp,HK⟩ : ∃ kp : Nat -> Bool,Hid (kp = fun j => !p zs.toArray[j]!) := ⟨_,rfl⟩
 have hfil : (zs.filter fun x => !p x) = keptUpTo kp zs.toArray zs.toArray.size := by rw [HK.out]; exact (keptUpTo_filter (fun x => !p x) zs.toArray).symm
 rw [hfil]
 have tl : ∀ j,j < zs.length -> zs.toArray[j]! = zs[j]! := fun j hj => by simp
 rcases idx_spec p zs 0 with ⟨e1,hall⟩ | ⟨k0,hk0,e1,ht,hall⟩
 ·-- no element is struck: the slice comes back as it is
  have e2 : Lib.idxBy (fun _ y => p y) zs default = -1 := e1
  rw [e2] at hIF
  have hkeep : ∀ j,j < zs.toArray.size -> kp j = true := fun j hj => by rw [HK.out]; show (!p zs.toArray[j]!) = true; rw [tl j (by simpa using hj),hall j (by simpa using hj)]; rfl
  have e3 : keptUpTo kp zs.toArray zs.toArray.size = zs := by rw [keptUpTo_all kp _ _ hkeep,range_map_get]
  rw [e3]
  clear hall
  obtain ⟨_,_,FG⟩ := L.f10
  go_enter FG,SlBodyH.n10_ntmps ρ
  go_wp2_with (go_at_fn (ρ.f 6); refine (hIF _ (by first | exact HR.out | exact HH.out.drewN _ HR.out | exact HH.out.drew _ _ HR.out)).mono ?_; rintro e w' ⟨rfl,R0⟩)
  go_ret
  refine ⟨by simp,?_⟩
  simp only [Nat.sub_self,List.replicate_zero,List.append_nil]
  first | exact R0 | exact HH.out.drewN _ R0 | exact HH.out.drew _ _ R0
 ·have e2 : Lib.idxBy (fun _ y => p y) zs default = (k0 : Int) := by unfold Lib.idxBy; rw [e1]; simp
  rw [e2] at hIF
  have hkeep : ∀ j,j < k0 -> kp j = true := fun j hj => by rw [HK.out]; show (!p zs.toArray[j]!) = true; rw [tl j (by omega),hall j hj]; rfl
  have hdrop : kp k0 = false := by rw [HK.out]; show (!p zs.toArray[k0]!) = false; rw [tl k0 hk0,ht]; rfl
  have hne1 : ((k0 : Int) == -1) = false := beq_eq_false_iff_ne.2 (by omega)
  clear hall ht e1 e2
  obtain ⟨_,_,FG⟩ := L.f10
  go_enter FG,SlBodyH.n10_ntmps ρ
  go_wp2_with (go_at_fn (ρ.f 6); refine (hIF _ (by first | exact HR.out | exact HH.out.drewN _ HR.out | exact HH.out.drew _ _ HR.out)).mono ?_; rintro e w' ⟨rfl,R0⟩)
  have RR0 : Aside (R zs w') := R0
  clear R0
  go_loopg [5,6,7] zs.length (fun gg s5 s6 _ wr => ∃ (i j : Nat) (dk : List Int),s5 = .int .i64 i /\ s6 = .int .i64 j /\ j <= zs.length /\ zs.length - j <= gg /\ Aside (R dk wr) /\ Aside (KeptInv kp zs.toArray j i dk.toArray))
  case atStart => exact ⟨k0,k0 + 1,zs,rfl,by go_num,by omega,by omega,(show Aside _ from by first | exact RR0.out | exact HH.out.drewN _ RR0.out | exact HH.out.drew _ _ RR0.out),KeptInv.start hkeep hdrop⟩
  case round =>
   obtain ⟨i,j,dk,rfl,rfl,hjd,hgg,RR,I2⟩ := hrel
   have hI := I2.out
   have hij := hI.lt
   have hds : dk.length = zs.length := by simpa using hI.size
   by_cases hlt : j < zs.length
   ·have hltz : (j : Int) < (zs.length : Int) := by omega
    have cj := (HH.out.cell RR.out hlt).1
    have hi' : i < zs.length := by omega
    have hjj : dk[j]! = zs[j]! := by have := hI.high j (by omega); simpa using this
    rw [hjj] at cj
    have hmem : zs[j]! ∈ zs := by rw [getElem!_pos zs j hlt]; exact List.getElem_mem hlt
    clear hI hjj
    generalize hu : zs[j]! = u at cj hmem
    have C : Aside (zs[j]! = u) := hu
    have M : Aside (u ∈ zs) := hmem
    clear hu hmem
    cases hq : p u with
    | false =>
     go_wp2_with (go_at_fn g; refine (HP.out dk _ u M.out (by first | exact RR.out | exact HH.out.drewN _ RR.out | exact HH.out.drew _ _ RR.out)).mono ?_; rintro e w' ⟨rfl,R2⟩; rw [hq]; obtain ⟨ci,fi⟩ := HH.out.cell R2 hi'; generalize dk[i]! = old at ci)
     go_roundg (zs.length - (j + 1))
     case measure => omega
     case rel =>
      refine ⟨i + 1,j + 1,dk.set i u,by go_num,by go_num,by omega,Nat.le_refl _,(show Aside _ from ?_),(show Aside _ from ?_)⟩
      ·exact HH.out.set R2 hi' u
      ·have := I2.out.keep (by simpa using hlt) (by rw [HK.out]; show (!p zs.toArray[j]!) = true; rw [show zs.toArray[j]! = zs[j]! by simp,C.out,hq]; rfl)
       rw [show zs.toArray[j]! = zs[j]! by simp,C.out] at this
       exact (by simpa using this : KeptInv kp zs.toArray (j + 1) (i + 1) (dk.set i u).toArray)
    | true =>
     go_wp2_with (go_at_fn g; refine (HP.out dk _ u M.out (by first | exact RR.out | exact HH.out.drewN _ RR.out | exact HH.out.drew _ _ RR.out)).mono ?_; rintro e w' ⟨rfl,R2⟩; rw [hq])
     go_roundg (zs.length - (j + 1))
     case measure => omega
     case rel => exact ⟨i,j + 1,dk,rfl,by go_num,by omega,Nat.le_refl _,(show Aside _ from by first | exact R2 | exact HH.out.drewN _ R2 | exact HH.out.drew _ _ R2),I2.out.skip (by rw [HK.out]; show (!p zs.toArray[j]!) = false; rw [show zs.toArray[j]! = zs[j]! by simp,C.out,hq]; rfl)⟩
   ·obtain rfl : j = zs.length := by omega
    have hltz : ¬ (zs.length : Int) < (zs.length : Int) := by omega
    have hcl : ∀ ty,(Builtin.clear_ #[ρ.t 22] ty #[.slice (some ⟨b,off + i,none⟩) (zs.length - i) (cap - i)]).run P wr = .ok (.tuple #[]) (wr.setCells b (off + i) (List.replicate (zs.length - i) (.int .i64 0))) :=
     fun ty => Lib.run_clear_slice wr _ _ ty _ t22 v23 rfl rfl b (off + i) _ _ (by omega) (fun t ht => by rw [show off + i + t = off + (i + t) by omega,(HH.out.cell RR.out (show i + t < zs.length by omega)).1]; rfl) (fun t ht => by rw [show off + i + t = off + (i + t) by omega]; exact (HH.out.cell RR.out (show i + t < zs.length by omega)).2)
    clear hI
    go_wp2
    go_ret
    have hI := I2.out
    have e5 : zs.toArray.size = zs.length := by simp
    have hl := hI.len
    rw [<- e5] at hl
    refine ⟨by rw [hI.len]; rfl,?_⟩
    have := HH.out.setCells (List.replicate (zs.length - i) 0) dk i _ RR.out (by simp; omega)
    have hd := KeptInv.done (kp := kp) (d := zs.toArray) (dk := dk.toArray) (k := i) hI (0 : Int)
    simp only [List.size_toArray] at hd
    rw [hd,List.map_replicate] at this
    rw [hI.len]
    exact this
theorem idx_none (L : SlLaysH.n6 P ρ) (g : FuncId) (lb : Array Value) (ad : Option Addr) (w : World) :
  Calls P (ρ.f 6) #[.slice ad 0 0,.func (.func g) #[] lb] w fun e w' => e = .returned (.int .i64 (-1)) /\ ∃ q,w' = w.drewN q := by
 have mixed := L.mixed; have t0 := L.t0; have a0 := L.a0; have z0 := L.z0; have v0 := L.v0; have t3 := L.t3; have a3 := L.a3; have z3 := L.z3; have v3 := L.v3; have t4 := L.t4; have a4 := L.a4; have z4 := L.z4; have v4 := L.v4; have t22 := L.t22; have a22 := L.a22; have z22 := L.z22; have v22 := L.v22; have a23 := L.a23; have z23 := L.z23; have t25 := L.t25; have a25 := L.a25; have z25 := L.z25; have v25 := L.v25
 obtain ⟨_,_,FG⟩ := L.f6
 go_enter FG,SlBodyH.n6_ntmps ρ
 go_wp2
 go_loopg [5,8] 0 (fun gg _ s8 wr => s8 = .int .i64 0 /\ ∃ q,wr = w.drewN q)
 case atStart => exact ⟨rfl,0,rfl⟩
 case round =>
  obtain ⟨rfl,q,rfl⟩ := hrel
  go_wp2
  go_ret
  exact ⟨rfl,q,rfl⟩
theorem del_none (L : SlLaysH.n10 P ρ) (g : FuncId) (lb : Array Value) (ad : Option Addr) (w : World) :
  Calls P (ρ.f 10) #[.slice ad 0 0,.func (.func g) #[] lb] w fun e w' => e = .returned (.slice ad 0 0) /\ ∃ q,w' = w.drewN q := by
 have mixed := L.mixed; have t0 := L.t0; have a0 := L.a0; have z0 := L.z0; have v0 := L.v0; have t3 := L.t3; have a3 := L.a3; have z3 := L.z3; have v3 := L.v3; have t4 := L.t4; have a4 := L.a4; have z4 := L.z4; have v4 := L.v4; have t22 := L.t22; have a22 := L.a22; have z22 := L.z22; have v22 := L.v22; have a23 := L.a23; have z23 := L.z23; have t25 := L.t25; have a25 := L.a25; have z25 := L.z25; have v25 := L.v25
 have e6 : ∀ args w,(callFunc (ρ.f 6) args).run P w = .ok (.enter (ρ.f 6) args) w := L.f6.enters rfl
 have hIF := idx_none (P := P) (ρ := ρ) { L with } g lb ad
 obtain ⟨_,_,FG⟩ := L.f10
 go_enter FG,SlBodyH.n10_ntmps ρ
 go_wp2_with (go_at_fn (ρ.f 6); refine (hIF _).mono ?_; rintro e w' ⟨rfl,q0,rfl⟩)
 go_ret
 exact ⟨rfl,q0,rfl⟩
end Go.Proofs
namespace Go.Vx
open Go Go.Shelf Go.Proofs
variable {P : Program} {ρ : Ren}
theorem drewN_at : ∀ (q : Nat) (w : World),w.drewN q = { w with drawn := w.drawn + q }
 | 0,w => rfl
 | q + 1,w => by
  show { (w.drewN q) with drawn := (w.drewN q).drawn + 1 } = _
  rw [drewN_at q w]
  rfl
theorem del_ok (L : SlLaysH.n10 P ρ) (v23 : ∀ w,(zeroValue (ρ.t 23)).run P w = .ok (.int .i64 0) w) : DelOk P (ρ.f 10) := by
 refine ⟨?_,fun ad g cu w => ?_,fun g cu pred R b off cap zs w hg hne h1 h2 h3 h4 hR hc hm hl => ?_⟩
 ·obtain ⟨nm,hn,hf⟩ := L.f10
  exact ⟨_,hf,hn,rfl⟩
 ·refine (del_none L g cu ad w).mono fun e w' he => ?_
  obtain ⟨rfl,q,rfl⟩ := he
  exact ⟨rfl,q,drewN_at q w⟩
 ·obtain ⟨fn,f1,f2,f3⟩ := hg
  obtain ⟨c,hc'⟩ := Option.isSome_iff_exists.1 f3
  exact del_R L v23 pred g cu (enters_of f1 f2 hc') b off cap zs R ⟨h1,h2,h3⟩ h4 (by omega) hc w hR
end Go.Vx
