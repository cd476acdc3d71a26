/- The abstract interpreter of the model's code, and its soundness: a part. No condition. -/
import Derived.Test.YtifckjhggamefaaGreatDoorUd
import Derived.Orders
set_option linter.unusedSimpArgs false
set_option linter.unusedVariables false
set_option linter.unusedSectionVars false
namespace Go.Vx
open Go Go.RowKit
section
variable {base : Nat} {w0 w : World} {g : Gh} {d : Nat} {s : St} {vals : Array Value} {o : Oper} {a : Act}
def Gh.cutBlk (g : Gh) (k : Nat) : Gh := { g with blk := g.blk.take k }
theorem cutBlk_get {k l : Nat} (h : l < k) : (g.cutBlk k).blk[l]? = g.blk[l]? := by
 simp only [Gh.cutBlk]; exact List.getElem?_take_of_lt h
theorem RelC.cut {k : Nat} {c : PV} {u : Value} (hp : ptrLt k c) (h : RelC g c u) : RelC (g.cutBlk k) c u := by
 cases c with
 | dat x => cases x <;> exact h
 | ptr l off => obtain ⟨b,h1,h2⟩ := h; exact ⟨b,by rw [cutBlk_get hp]; exact h1,h2⟩
 | clo f cap =>
  obtain ⟨us,h1,h2,h3⟩ := h
  refine ⟨us,h1,h2,fun j l hl => ?_⟩
  obtain ⟨b,h4,h5⟩ := h3 j l hl
  exact ⟨b,by rw [cutBlk_get (hp l (mog hl))]; exact h4,h5⟩
 | iptr => exact h
 | dead => exact trivial
 | own => exact h.elim
 | agg => exact h.elim
 | bag => exact h.elim
 | tup => exact h.elim
 | «alias» => exact h.elim
 | eptr => exact h.elim
theorem RelC.lt {c : PV} {u : Value} (h : RelC g c u) : ptrLt g.blk.length c := by
 cases c with
 | ptr l off => obtain ⟨b,h1,_⟩ := h; exact (gsi.1 h1).1
 | clo f cap =>
  obtain ⟨us,_,_,h3⟩ := h
  intro l hl
  obtain ⟨j,hj⟩ := List.getElem?_of_mem hl
  obtain ⟨b,h4,_⟩ := h3 j l hj
  exact (gsi.1 h4).1
 | _ => exact trivial
theorem RelB.lt {b j : Nat} {c : PV} {u : Value} (h : RelB w g b j c u) : ptrLt g.blk.length c := by
 cases c with
 | ptr l off => exact RelC.lt h
 | clo f cap => exact RelC.lt h
 | _ => exact trivial
theorem BoxRel.lt {b : Nat} {bx : Box} (h : BoxRel w g b bx) : ∀ c ∈ bx,ptrLt g.blk.length c := by
 obtain ⟨_,_,cs,T,_,h4,h5⟩ := h
 intro c hc
 obtain ⟨j,hj⟩ := List.getElem?_of_mem hc
 have hlt : j < cs.size := by rw [h4]; exact (gsi.1 hj).1
 exact (h5 j c _ hj (agg hlt)).lt
theorem BoxRel.cut {k b : Nat} {bx : Box} (hp : ∀ c ∈ bx,ptrLt k c) (h : BoxRel w g b bx) : BoxRel w (g.cutBlk k) b bx := by
 obtain ⟨h1,h2,cs,T,h3,h4,h5⟩ := h
 refine ⟨h1,h2,cs,T,h3,h4,fun j c u hc hu => ?_⟩
 have h := h5 j c u hc hu
 have hpc := hp c (mog hc)
 cases c with
 | own ex k xs => exact h
 | agg => exact h.elim
 | bag => exact h.elim
 | tup => exact h.elim
 | «alias» => exact h.elim
 | eptr => exact h.elim
 | dat _ => exact RelC.cut hpc h
 | ptr _ _ => exact RelC.cut hpc h
 | iptr _ _ => exact RelC.cut hpc h
 | clo _ _ => exact RelC.cut hpc h
 | dead => exact trivial
def allLt (k : Nat) : PV -> Prop
 | .agg cs => ∀ c ∈ cs,ptrLt k c
 | c => ptrLt k c
theorem RelR.cut {k : Nat} {ow : Owner} {c : PV} {u : Value} (hp : allLt k c) (h : RelR w g ow c u) : RelR w (g.cutBlk k) ow c u := by
 cases c with
 | own ex k xs => exact h
 | agg cs => obtain ⟨us,h1,h2,h3⟩ := h; exact ⟨us,h1,h2,fun j c v hc hv => (h3 j c v hc hv).cut (hp c (mog hc))⟩
 | dat x => exact RelC.cut (c := .dat x) hp h
 | ptr x y => exact RelC.cut (c := .ptr x y) hp h
 | iptr x y => exact RelC.cut (c := .iptr x y) hp h
 | clo x y => exact RelC.cut (c := .clo x y) hp h
 | dead => exact trivial
 | bag => exact h.elim
 | tup => exact h.elim
 | «alias» => exact h.elim
 | eptr => exact h.elim
theorem RelR.allLt {ow : Owner} {c : PV} {u : Value} (h : RelR w g ow c u) : allLt g.blk.length c := by
 cases c with
 | agg cs =>
  obtain ⟨us,h1,h2,h3⟩ := h
  intro c hc
  obtain ⟨j,hj⟩ := List.getElem?_of_mem hc
  have hlt : j < us.length := by rw [h2]; exact (gsi.1 hj).1
  exact (h3 j c _ hj (gge hlt)).lt
 | ptr x y => exact RelC.lt (c := .ptr x y) h
 | clo x y => exact RelC.lt (c := .clo x y) h
 | _ => exact trivial
theorem ret_core (hi : Inv base w0 w g d s vals) {st0 s' s2 : St} {w' : World} {g' : Gh} {vals' : Array Value} (hi' : Inv base w0 w' g' (d + 1) s' vals') (hst : Stp (d + 1) st0 s' w w' g g')
  (hb0 : st0.bx = s.bx) (hn0 : st0.nb = s.bx.length) {k : Nat} (hk1 : s.bx.length <= k) (hk2 : k <= s'.bx.length) (hp : ∀ (l : Nat) bx,l < k -> s'.bx[l]? = some bx -> ∀ c ∈ bx,ptrLt k c)
  (e1 : s2.nb = s.nb) (e2 : s2.bx = s'.bx.take k) (e3 : s2.ts = noAlias s.ts ∨ (s2.ts = s.ts /\ ∀ l,l < s.bx.length -> below l s'.lo))
  (e4 : ∀ l,l < s.nb -> below l s2.lo -> below l s'.lo) (e5 : ∀ l,below l s2.lo -> below l s.lo) (e6 : s.kp = true -> s2.kp = true) (e7 : s2.kp = false -> s'.kp = false)
  {f : Owner -> Option Owner} (hfb : f .box = some .box) (hfc : ∀ b off,f (.cell b off) = some (.cell b off)) (hft : ∀ d' i j,d' < d ∨ (d' = d /\ i < s.ts.length) -> f (.tmp d' i j) = some (.tmp d' i j))
  (hfd : ∀ o' d' i j,f o' = some (.tmp d' i j) -> d' <= d) :
  Inv base w0 w' ((g'.relab f).cutBlk k) d s2 vals /\ Stp d s s2 w w' g ((g'.relab f).cutBlk k) := by
 have hbl : g.blk.length = s.bx.length := hi.blen
 have hgr : Grows g ((g'.relab f).cutBlk k) := ⟨hst.gr.m,fun l b h => by
  have hl : l < s.bx.length := by rw [<- hbl]; exact (gsi.1 h).1
  rw [cutBlk_get (Nat.lt_of_lt_of_le hl hk1)]
  exact hst.gr.blk l b h,hst.gr.bt⟩
 have hkept : ∀ b o',g.own b = some o' -> f o' = some o' -> Kept w w' g g' b -> Kept w w' g ((g'.relab f).cutBlk k) b := by
  intro b o' h1 h2 h3
  refine ⟨h3.1,?_,h3.2.2⟩
  have : g'.own b = some o' := by rw [h3.2.1]; exact h1
  simp only [Gh.cutBlk,Gh.relab,this,Option.bind_some,h2,h1]
 have hkt : ∀ b d' i j,g.own b = some (.tmp d' i j) -> (d' < d ∨ (d' = d /\ i < s.ts.length)) -> Kept w w' g ((g'.relab f).cutBlk k) b := by
  intro b d' i j h1 h2
  exact hkept b _ h1 (hft d' i j h2) (hst.tmps b d' i j h1 (by omega))
 have htl : s2.ts.length = s.ts.length := by
  rcases e3 with e3 | e3
  ·rw [e3]; simp [noAlias]
  ·rw [e3.1]
 have hcell : ∀ l,l < s.bx.length -> below l s'.lo -> ∀ b,g.blk[l]? = some b -> ∀ off,w'.cell? ⟨b,off,none⟩ = w.cell? ⟨b,off,none⟩ := by
  intro l hl hlo b hb off
  obtain ⟨_,h2⟩ := hst.old l (by rw [hn0]; exact hl) hlo
  exact World.cell?_of_block (w := w) ((h2 b hb).1.1)
 have hslot : ∀ (i : Nat) c,s2.ts[i]? = some c -> ∃ c0,s.ts[i]? = some c0 /\ (c = .dead ∨ (c = c0 /\ ∀ p,aliasOf c = some p -> (∃ i,p = .tmp i) ∨ ∀ l,l < s.bx.length -> below l s'.lo)) := by
  intro i c hc
  rcases e3 with e3 | e3
  ·rw [e3] at hc
   simp only [noAlias,List.getElem?_map] at hc
   cases h0 : s.ts[i]? with
   | none => rw [h0] at hc; cases hc
   | some c0 =>
    rw [h0] at hc
    obtain rfl := sij hc
    refine ⟨c0,rfl,?_⟩
    cases ha : aliasOf c0 with
    | none => exact .inr ⟨PV.strip_of ha,fun p hp => by rw [PV.strip_of ha,ha] at hp; cases hp⟩
    | some p =>
     cases p with
     | tmp i' => exact .inr ⟨strip_false ha rfl,fun p hp => by rw [strip_false ha rfl,ha] at hp; cases hp; exact .inl ⟨i',rfl⟩⟩
     | cell l off => exact .inl (strip_true ha rfl)
  ·rw [e3.1] at hc
   exact ⟨c,hc,.inr ⟨rfl,fun p _ => .inr e3.2⟩⟩
 refine ⟨⟨hi'.low,hi.hb,hi'.mem,fun b o' h => ?_,fun b o' h => ?_,fun b d' i j h => ?_,?_,?_,?_,fun l b bx h1 h2 => ?_,by rw [htl]; exact hi.tl,fun i c v h1 h2 => ?_,fun i c p h1 h2 => ?_⟩,⟨hgr,e1,?_,fun b d' i j h hd => hkt b d' i j h (.inl hd),e5,fun l hl hlo => ?_,e6,fun hkp n l bx bx' hl h1 h2 h3 => ?_⟩⟩
 ·obtain ⟨o'',h1,_⟩ := relab_own (g := g') (f := f) h; exact hi'.own_ge b o'' h1
 ·obtain ⟨o'',h1,_⟩ := relab_own (g := g') (f := f) h; exact hi'.own_lt b o'' h1
 ·obtain ⟨o'',h1,h2⟩ := relab_own (g := g') (f := f) h; exact hfd o'' d' i j h2
 ·rw [e2,List.length_take]; simp only [Gh.cutBlk,Gh.relab,List.length_take,hi'.blen]
 ·exact hi'.nodup.sublist (List.take_sublist ..)
 ·rw [e1,e2,List.length_take]
  have := hi.nbl
  omega
 ·rw [e2] at h2
  have hl : l < k := by
   have := (gsi.1 h2).1
   rw [List.length_take] at this; omega
  rw [cutBlk_get hl] at h1
  rw [List.getElem?_take_of_lt hl] at h2
  exact BoxRel.cut (hp l bx hl h2) ((hi'.boxes l b bx h1 h2).relab hfb (hfc b))
 ·obtain ⟨c0,h3,h4⟩ := hslot i c h1
  rcases h4 with h4 | ⟨h4,h5⟩
  ·subst h4; exact trivial
  ·subst h4
   have hil : i < s.ts.length := (gsi.1 h3).1
   refine (hi.tmps i c v h3 h2).kept hgr (fun j b hb => hkt b d i j hb (.inr ⟨rfl,hil⟩)) fun p v' hp' hv' => ?_
   cases p with
   | tmp i' => exact hv'
   | cell l off =>
    rcases h5 _ hp' with ⟨i',h6⟩ | h6
    ·cases h6
    ·simp only [placeVal] at hv' ⊢
     cases hb : g.blk[l]? with
     | none => rw [hb] at hv'; cases hv'
     | some b =>
      rw [hb] at hv'
      rw [hgr.blk l b hb]
      have hl : l < s.bx.length := by rw [<- hbl]; exact (gsi.1 hb).1
      simp only [Option.bind_some] at hv' ⊢
      rw [hcell l hl (h6 l hl) b hb]
      exact hv'
 ·obtain ⟨c0,h3,h4⟩ := hslot i c h1
  rcases h4 with h4 | ⟨h4,h5⟩
  ·subst h4; cases h2
  ·subst h4
   have hm := hi.al i c p h3 h2
   rcases h5 p h2 with ⟨i',h6⟩ | h6
   ·subst h6
    simp only [St.at,List.getD_eq_getElem?_getD] at hm ⊢
    rcases e3 with e3 | e3
    ·rw [e3]
     simp only [noAlias,List.getElem?_map]
     cases hq : s.ts[i']? with
     | none => rfl
     | some q =>
      rw [hq] at hm
      simp only [Option.map_some,Option.getD_some] at hm ⊢
      rw [maySrc_strip_of hm]; exact hm
    ·rw [e3.1]; exact hm
   ·cases p with
    | tmp i' =>
     simp only [St.at,List.getD_eq_getElem?_getD] at hm ⊢
     rcases e3 with e3 | e3
     ·rw [e3]
      simp only [noAlias,List.getElem?_map]
      cases hq : s.ts[i']? with
      | none => rfl
      | some q =>
       rw [hq] at hm
       simp only [Option.map_some,Option.getD_some] at hm ⊢
       rw [maySrc_strip_of hm]; exact hm
     ·rw [e3.1]; exact hm
    | cell l off =>
     simp only [St.at] at hm ⊢
     by_cases hl : l < s.bx.length
     ·obtain ⟨q1,_⟩ := hst.old l (by rw [hn0]; exact hl) (h6 l hl)
      rw [e2,List.getElem?_take_of_lt (Nat.lt_of_lt_of_le hl hk1),q1,hb0]
      exact hm
     ·-- a place beyond the boxes: its value cannot be
      have hlt : i < vals.size := by rw [hi.tl]; exact (gsi.1 h3).1
      have hr := hi.tmps i c _ h3 (agg hlt)
      have : ∃ v,placeVal w g vals (.cell l off) = some v := by
       cases c <;> simp only [aliasOf] at h2 <;> first | cases h2 | skip
       ·exact ⟨_,hr⟩
       ·obtain ⟨b,o',n,c',h1,_⟩ := hr; exact ⟨_,h1⟩
      obtain ⟨v,hv⟩ := this
      simp only [placeVal] at hv
      have : g.blk[l]? = none := List.getElem?_eq_none (by omega)
      rw [this] at hv; cases hv
 ·rw [e2,List.length_take]; omega
 ·have hl' : l < s.bx.length := Nat.lt_of_lt_of_le hl hi.nbl
  obtain ⟨q1,q2⟩ := hst.old l (by rw [hn0]; exact hl') (e4 l hl hlo)
  refine ⟨by rw [e2,List.getElem?_take_of_lt (Nat.lt_of_lt_of_le hl' hk1),q1,hb0],fun b hb => ⟨?_,fun off b' hb' => ?_⟩⟩
  ·exact hkept b _ (hi.boxes l b _ hb (gge hl')).1 hfb (q2 b hb).1
  ·exact hkept b' _ hb' (hfc b off) ((q2 b hb).2 off b' hb')
 ·have hl' : l < s.bx.length := Nat.lt_of_lt_of_le hl hi.nbl
  rw [e2,List.getElem?_take_of_lt (Nat.lt_of_lt_of_le hl' hk1)] at h3
  exact hst.kpl (e7 hkp) n l bx bx' (by rw [hn0]; exact hl') (by rw [hb0]; exact h1) h2 h3
def finSt (out : Out) (s : St) : Option (PV × St) :=
 match out with
 | .ret r none => some (r,s)
 | .ret r (some e) => some (r,{ s with ts := noAlias s.ts,bx := e.bx,lo := (if e.lo < s.nb then some (match s.lo with | none => e.lo | some m => min m e.lo) else s.lo),kp := s.kp || e.kp })
 | .loop _ _ => none
theorem fin_eq {out : Out} {dst : Option Tmp} {s s' : St} (h : fin out dst s = some s') : ∃ r s1,finSt out s = some (r,s1) /\ s' = put s1 dst r := by
 cases out with
 | loop => cases h
 | ret r e =>
  cases e with
  | none => exact ⟨r,s,rfl,(sij h).symm⟩
  | some e => exact ⟨r,_,rfl,(sij h).symm⟩
def endLab (d N : Nat) (one : Bool) : Owner -> Option Owner
 | .tmp d' i j => if d' = d /\ i = N then some (.res (if one then j - 1 else j)) else if d' <= d then some (.tmp d' i j) else none
 | o => some o
theorem allLt_of_noPtr {k : Nat} {pvs : List PV} (h : (tupOf pvs).noPtr = true) : ∀ c ∈ pvs,allLt k c := by
 have one : ∀ c : PV,(match c with | .agg cs => cs.all PV.isDat | v => v.isDat) = true -> allLt k c := by
  intro c hc
  cases c with
  | agg cs => exact fun x hx => isDat_ptrLt (List.all_eq_true.1 hc x hx)
  | ptr => cases hc
  | clo => cases hc
  | _ => exact trivial
 match pvs,h with
 | [],_ => intro c hc; cases hc
 | [x],h =>
  intro c hc
  simp only [List.mem_singleton] at hc
  subst hc
  cases c with
  | agg cs => exact one _ h
  | tup vs => exact trivial
  | ptr => cases h
  | clo => cases h
  | _ => exact trivial
 | x :: y :: z,h => exact fun c hc => one c (List.all_eq_true.1 h c hc)
theorem below_min {l m : Nat} {lo : Option Nat} (h : below l (some (match lo with | none => m | some q => min q m))) : l < m /\ below l lo := by
 cases lo with
 | none => exact ⟨h,trivial⟩
 | some q =>
  have h : l < min q m := h
  exact ⟨by omega,by show l < q; omega⟩
theorem ret_sound (hi : Inv base w0 w g d s vals) {st0 s' s1 : St} {w' : World} {g' : Gh} {vals' : Array Value} {pvs : List PV} {us : List Value} {r : PV} (hi' : Inv base w0 w' g' (d + 1) s' vals') (hst : Stp (d + 1) st0 s' w w' g g')
  (hb0 : st0.bx = s.bx) (hn0 : st0.nb = s.bx.length) (hlen : us.length = pvs.length) (hr : ∀ (i : Nat) c u,pvs[i]? = some c -> us[i]? = some u -> RelR w' g' (.tmp d s.ts.length (i + 1)) c u)
  (hfin : finSt (outOf (tupOf pvs) s') s = some (r,s1)) :
  ∃ g'',Inv base w0 w' g'' d s1 vals /\ Stp d s s1 w w' g g'' /\ RelP w' g'' vals s1 r (if h : us.toArray.size = 1 then us.toArray[0] else .tuple us.toArray) := by
 have hbl : g.blk.length = s.bx.length := hi.blen
 have hbl' : g'.blk.length = s'.bx.length := hi'.blen
 have hnb : s'.nb = s.bx.length := by rw [hst.nb,hn0]
 have hsb : s.bx.length <= s'.bx.length := by rw [<- hb0]; exact hst.bl
 have hstart : ∀ (l : Nat) bx,st0.bx[l]? = some bx -> ∀ c ∈ bx,ptrLt s.bx.length c := by
  intro l bx h
  rw [hb0] at h
  have hl : l < g.blk.length := by rw [hbl]; exact (gsi.1 h).1
  have := (hi.boxes l _ bx (gge hl) h).lt
  rw [hbl] at this; exact this
 have hend : s'.kp = false -> ∀ (l : Nat) bx,l < s.bx.length -> s'.bx[l]? = some bx -> ∀ c ∈ bx,ptrLt s.bx.length c := by
  intro hk l bx hl h
  have hl0 : l < st0.bx.length := by rw [hb0]; exact hl
  exact hst.kpl hk s.bx.length l _ bx (by rw [hn0]; exact hl) (gge hl0) (hstart l _ (gge hl0)) h
 have hfull : ∀ (l : Nat) bx,l < s'.bx.length -> s'.bx[l]? = some bx -> ∀ c ∈ bx,ptrLt s'.bx.length c := by
  intro l bx hl h
  have hl' : l < g'.blk.length := by rw [hbl']; exact hl
  have := (hi'.boxes l _ bx (gge hl') h).lt
  rw [hbl'] at this; exact this
 have hfb : ∀ one,endLab d s.ts.length one .box = some .box := fun _ => rfl
 have hft : ∀ one d' i j,d' < d ∨ (d' = d /\ i < s.ts.length) -> endLab d s.ts.length one (.tmp d' i j) = some (.tmp d' i j) := by
  intro one d' i j h
  simp only [endLab]
  rw [if_neg (by rintro ⟨a,b⟩; omega),if_pos (by omega)]
 have hfd : ∀ one o' d' i j,endLab d s.ts.length one o' = some (.tmp d' i j) -> d' <= d := by
  intro one o' d' i j h
  cases o' with
  | tmp d1 i1 j1 =>
   simp only [endLab] at h
   split at h
   ·cases h
   ·split at h
    ·cases h; assumption
    ·cases h
  | box => cases h
  | cell => cases h
  | res => cases h
 have hres : ∀ k,(∀ c ∈ pvs,allLt k c) -> ∀ s1,RelP w' ((g'.relab (endLab d s.ts.length (pvs.length == 1))).cutBlk k) vals s1 (tupOf pvs) (if h : us.toArray.size = 1 then us.toArray[0] else .tuple us.toArray) := by
  intro k hk s1
  have each : ∀ (i : Nat) c u,pvs[i]? = some c -> us[i]? = some u -> RelR w' ((g'.relab (endLab d s.ts.length (pvs.length == 1))).cutBlk k) (.res (if (pvs.length == 1) then i else i + 1)) c u := by
   intro i c u h1 h2
   refine RelR.cut (hk c (mog h1)) ((hr i c u h1 h2).relab ?_)
   simp only [endLab,and_self,if_true]
   cases (pvs.length == 1) <;> rfl
  by_cases h1 : pvs.length = 1
  ·obtain ⟨c,rfl⟩ := List.length_eq_one_iff.1 h1
   rw [h1] at hlen
   obtain ⟨u,rfl⟩ := List.length_eq_one_iff.1 hlen
   have e := each 0 c u rfl rfl
   simp only [List.length_singleton,beq_self_eq_true,if_true] at e
   simp only [tupOf,List.length_singleton,beq_self_eq_true]
   change RelP _ _ _ _ c u
   cases c with
   | «alias» => exact e.elim
   | eptr => exact e.elim
   | bag => exact e.elim
   | tup => exact e.elim
   | dead => exact trivial
   | dat _ => exact e
   | own _ _ _ => exact e
   | agg _ => exact e
   | ptr _ _ => exact e
   | iptr _ _ => exact e
   | clo _ _ => exact e
  ·have hn : (pvs.length == 1) = false := by simpa using h1
   rw [hn] at each ⊢
   simp only [Bool.false_eq_true,if_false] at each
   have ht : tupOf pvs = .tup pvs := by
    match pvs,h1 with
    | [],_ => rfl
    | [x],h => exact absurd rfl h
    | x :: y :: z,_ => rfl
   rw [ht,dif_neg (by simpa [hlen] using h1)]
   exact ⟨us,rfl,hlen,fun j c v hc hv => each j c v hc hv⟩
 have hbelow : ∀ {e : Eff} (l : Nat),below l (if e.lo < s.nb then some (match s.lo with | none => e.lo | some m => min m e.lo) else s.lo) -> below l s.lo /\ (l < s.nb -> l < e.lo) := by
  intro e l h
  split at h
  ·exact ⟨(below_min h).2,fun _ => (below_min h).1⟩
  ·exact ⟨h,fun hl => by omega⟩
 unfold outOf at hfin
 split at hfin
 ·rename_i hcond
  simp only [Bool.and_eq_true,Bool.not_eq_true'] at hcond
  obtain ⟨hnp,hkp⟩ := hcond
  have hlt : ∀ c ∈ pvs,allLt s.bx.length c := allLt_of_noPtr hnp
  split at hfin
  ·rename_i hlo
   simp only [finSt,sjE,Prod.mk.injEq] at hfin
   obtain ⟨rfl,rfl⟩ := hfin
   have hall : ∀ l,below l s'.lo := fun l => by rw [hlo]; exact trivial
   have hbx : s.bx = s'.bx.take s.bx.length := by
    apply List.ext_getElem?
    intro l
    by_cases hl : l < s.bx.length
    ·rw [List.getElem?_take_of_lt hl,(hst.old l (by rw [hn0]; exact hl) (hall l)).1,hb0]
    ·rw [List.getElem?_eq_none (by omega),List.getElem?_eq_none (by rw [List.length_take]; omega)]
   obtain ⟨q1,q2⟩ := ret_core (s2 := s) hi hi' hst hb0 hn0 (Nat.le_refl _) hsb (hend hkp) rfl hbx (.inr ⟨rfl,fun l _ => hall l⟩) (fun l _ _ => hall l) (fun _ h => h) (fun h => h) (fun _ => hkp)
    (hfb (pvs.length == 1)) (fun _ _ => rfl) (hft _) (hfd _)
   exact ⟨_,q1,q2,hres _ hlt _⟩
  ·rename_i l0 hlo
   simp only [finSt,sjE,Prod.mk.injEq] at hfin
   obtain ⟨rfl,rfl⟩ := hfin
   obtain ⟨q1,q2⟩ := ret_core (s2 := { s with ts := noAlias s.ts,bx := s'.bx.take s'.nb,lo := (if l0 < s.nb then some (match s.lo with | none => l0 | some m => min m l0) else s.lo),kp := s.kp || false }) hi hi' hst hb0 hn0 (Nat.le_refl _) hsb (hend hkp) rfl (by rw [hnb]) (.inl rfl)
    (fun l hl h => by rw [hlo]; exact (hbelow (e := ⟨[],l0,false⟩) l h).2 hl) (fun l h => (hbelow (e := ⟨[],l0,false⟩) l h).1) (fun h => by simp [h]) (fun _ => hkp)
    (hfb (pvs.length == 1)) (fun _ _ => rfl) (hft _) (hfd _)
   exact ⟨_,q1,q2,hres _ hlt _⟩
 ·simp only [finSt,sjE,Prod.mk.injEq] at hfin
  obtain ⟨rfl,rfl⟩ := hfin
  have hlt : ∀ c ∈ pvs,allLt s'.bx.length c := by
   intro c hc
   obtain ⟨i,hic⟩ := List.getElem?_of_mem hc
   have hiu : i < us.length := by rw [hlen]; exact (gsi.1 hic).1
   have := (hr i c _ hic (gge hiu)).allLt
   rw [hbl'] at this; exact this
  obtain ⟨q1,q2⟩ := ret_core (s2 := { s with ts := noAlias s.ts,bx := s'.bx,lo := (if s'.lo.getD s'.nb < s.nb then some (match s.lo with | none => s'.lo.getD s'.nb | some m => min m (s'.lo.getD s'.nb)) else s.lo),kp := s.kp || s'.kp }) hi hi' hst hb0 hn0 hsb (Nat.le_refl _) hfull rfl (by simp) (.inl rfl)
   (fun l hl h => by
    have := (hbelow (e := ⟨[],s'.lo.getD s'.nb,false⟩) l h).2 hl
    cases hlo : s'.lo with
    | none => exact trivial
    | some m => simp only [hlo,Option.getD_some] at this; exact this) (fun l h => (hbelow (e := ⟨[],s'.lo.getD s'.nb,false⟩) l h).1) (fun h => by simp [h]) (fun h => by
     simp only [Bool.or_eq_false_iff] at h; exact h.2)
   (hfb (pvs.length == 1)) (fun _ _ => rfl) (hft _) (hfd _)
  exact ⟨_,q1,q2,hres _ hlt _⟩
end
end Go.Vx
namespace Go.Vx
open Go Go.RowKit
section
variable {P : Program} {cfg : Cfg} {base : Nat} {w0 w : World} {g : Gh} {d : Nat} {s : St} {vals : Array Value} {o : Oper} {a : Act}
theorem mark_at {p : Place} {v : PV} {ex : Bool} {k : Nat} {xs : List (List D)} (h : s.at p = .own ex k xs) : (s.mark p v).at p = v := by
 cases p with
 | tmp t =>
  have h1 := getD_some h (by intro e; cases e)
  have hlt : t < s.ts.length := (gsi.1 h1).1
  simp [St.mark,St.at,List.getD,hlt]
 | cell l off =>
  obtain ⟨bx,h1,h2⟩ := at_cell h (by intro e; cases e)
  have hl : l < s.bx.length := (gsi.1 h1).1
  have ho : off < bx.length := (gsi.1 h2).1
  have hbx : s.bx[l] = bx := by rw [gge hl] at h1; exact sij h1
  simp only [St.mark,St.at,touch_bx]
  simp only [hl,gss,Option.getD_some,h1,List.getD]
  simp [ho]
theorem touch_touch (s : St) (l : Nat) (b : List Box) : touch { touch s l with bx := b } l = touch { s with bx := b } l := by
 unfold touch
 by_cases h : l < s.nb
 ·simp only [h,if_true]
  cases s.lo <;> simp
 ·simp only [h,if_false]
theorem mark_mark (s : St) (p : Place) (u v : PV) (h : ∀ l off,p = .cell l off -> ∃ bx,s.bx[l]? = some bx) : (s.mark p u).mark p v = s.mark p v := by
 cases p with
 | tmp t => simp [St.mark]
 | cell l off =>
  obtain ⟨bx,hb⟩ := h l off rfl
  have hl : l < s.bx.length := (gsi.1 hb).1
  simp only [St.mark,touch_bx]
  have e : (touch { s with bx := s.bx.set l (((s.bx[l]?).getD []).set off u) } l) = { touch s l with bx := s.bx.set l (((s.bx[l]?).getD []).set off u) } := by
   unfold touch; simp only; split <;> rfl
  rw [e]
  simp only
  rw [touch_touch]
  congr 1
  simp [hl]
theorem ownPlace_sound (hi : Inv base w0 w g d s vals) (ha : a.tmps = vals) {x : Operand} {p : Place} {xs : List (List D)} (h : ownPlace cfg x s = some (p,xs)) :
  s.at p = .own true 1 xs /\ placeVal w g vals p = some (a.eval x) := by
 unfold ownPlace at h
 split at h
 ·rename_i p' hv
  split at h
  ·rename_i ys hat
   simp only [sjE,Prod.mk.injEq] at h
   obtain ⟨rfl,rfl⟩ := h
   obtain ⟨t,rfl⟩ := val_is_tmp hv (.inl ⟨_,rfl⟩)
   simp only [St.val] at hv
   obtain ⟨_,_,h3⟩ := val_tmp hi ha hv (by intro e; cases e)
   exact ⟨hat,h3⟩
  ·cases h
 ·rename_i ys hv
  split at h
  ·rename_i t
   simp only [sjE,Prod.mk.injEq] at h
   obtain ⟨rfl,rfl⟩ := h
   simp only [St.val] at hv
   obtain ⟨_,h2,_⟩ := val_tmp hi ha hv (by intro e; cases e)
   exact ⟨hv,h2⟩
  ·cases h
 ·cases h
theorem intRows_rel : ∀ {xs : List (List D)} {zs : List Int},intRows xs = some zs -> xs = rowsOf zs
 | [],zs,h => by obtain rfl := sij h; rfl
 | r :: rs,zs,h => by
  simp only [intRows] at h
  obtain ⟨z,h1,h2⟩ := seqO_eq.1 h
  obtain ⟨zs',h3,h4⟩ := seqO_eq.1 h2
  obtain rfl := sij h4
  rw [intRows_rel h3]
  unfold intRow at h1
  split at h1
  ·obtain rfl := sij h1; rfl
  ·cases h1
theorem rowsOf_flat (zs : List Int) : (rowsOf zs).flatten = zs.map fun z => .lit (.int .i64 z) := by
 induction zs with
 | nil => rfl
 | cons z zs ih =>
  have : rowsOf (z :: zs) = [.lit (.int .i64 z)] :: rowsOf zs := rfl
  rw [this,List.flatten_cons,ih]; rfl
theorem rowsOf_len (zs : List Int) : (rowsOf zs).length = zs.length := by simp [rowsOf]
theorem rowsOf_row {zs : List Int} : ∀ x ∈ rowsOf zs,x.length = 1 := by
 intro x hx
 simp only [rowsOf,List.mem_map] at hx
 obtain ⟨z,_,rfl⟩ := hx
 rfl
theorem own_ints {ow : Owner} {zs : List Int} {b off n c : Nat} (ho : OwnRel w g ow true 1 (rowsOf zs) (.slice (some ⟨b,off,none⟩) n c)) :
  ∃ cur T,w.heap[b]? = some (.cells cur T (0,0)) /\ n = zs.length /\ zs.length <= c /\ c <= maxLen /\ off + zs.length <= cur.size /\ (∀ (j : Nat) z,zs[j]? = some z -> cur[off + j]? = some (.int .i64 z)) := by
 obtain ⟨b1,off1,c1,cur,T,f1,f2,f3,f4,f5,f6,f7,f8,f9,f10,f11⟩ := ho
 simp only [Value.slice.injEq,sjE,Addr.mk.injEq] at f1
 obtain ⟨⟨rfl,rfl,_⟩,rfl,rfl⟩ := f1
 rw [rowsOf_len] at f4
 have hk : ksz 1 = 1 := rfl
 rw [hk,Nat.mul_one] at f7
 refine ⟨cur,T,f3,rowsOf_len zs,f4,f5,by omega,fun j z hz => ?_⟩
 obtain ⟨u,h1,h2⟩ := f9 j (.lit (.int .i64 z)) (by rw [rowsOf_flat,List.getElem?_map,hz]; rfl)
 cases h2
 exact h1
theorem wrote_inv (hi : Inv base w0 w g d s vals) {w' : World} {p : Place} {zs new : List Int} {ow : Owner} {b off n c : Nat} {cur : Array Value} {T : TypeId} (hp : s.at p = .own true 1 (rowsOf zs)) (hw : OwnerAt g d p ow)
  (hu : placeVal w g vals p = some (.slice (some ⟨b,off,none⟩) n c)) (ho : OwnRel w g ow true 1 (rowsOf zs) (.slice (some ⟨b,off,none⟩) n c)) (hheap : w.heap[b]? = some (.cells cur T (0,0)))
  (hl : new.length = zs.length) (hW : Wrote b off (new.map (.int .i64)) cur T w w') :
  Inv base w0 w' g d (s.mark p (.own true 1 (rowsOf new))) vals /\ Stp d s (s.mark p (.own true 1 (rowsOf new))) w w' g g := by
 obtain ⟨b1,off1,c1,cur1,T1,f1,f2,f3,f4,f5,f6,f7,f8,f9,f10,f11⟩ := ho
 simp only [Value.slice.injEq,sjE,Addr.mk.injEq] at f1
 obtain ⟨⟨rfl,rfl,_⟩,rfl,rfl⟩ := f1
 rw [hheap] at f3
 obtain ⟨rfl,rfl⟩ : cur = cur1 /\ T = T1 := by cases f3; exact ⟨rfl,rfl⟩
 rw [rowsOf_len] at f4
 have hk : ksz 1 = 1 := rfl
 rw [hk,Nat.mul_one] at f7
 have hbase : base <= b := hi.own_ge b _ f2
 have hbs := hi.low.size
 have hb0 := hi.hb
 have hlt := hi.own_lt b _ f2
 have hlow : Below base w0 w' := hi.low.trans ⟨hW.os,hW.tape,hW.output,hW.size,fun k hk => hW.other k (by omega) (by omega)⟩
 have hfit : off + (new.map (Value.int .i64)).length <= cur.toList.length := by simp; omega
 have hown : OwnRel w' g ow true 1 (rowsOf new) (.slice (some ⟨b,off,none⟩) (rowsOf zs).length c) := by
  refine ⟨b,off,c,_,T,by rw [rowsOf_len,rowsOf_len,hl],f2,hW.row,by rw [rowsOf_len,hl]; exact f4,f5,(fun h => absurd h (by decide)),by rw [hk,Nat.mul_one]; simp [setCells_len hfit]; exact f7,rowsOf_row,fun i x hx => ?_,fun _ => f10 rfl,by intro h; cases h⟩
  rw [rowsOf_flat] at hx
  have hi' : i < new.length := by simpa using (gsi.1 hx).1
  rw [List.getElem?_map,gge hi'] at hx
  obtain rfl := sij hx
  refine ⟨.int .i64 new[i],?_,.lit _ rfl⟩
  rw [List.getElem?_toArray,setCells_get hfit,if_pos ⟨by omega,by simp; omega⟩,show off + i - off = i by omega,List.getElem?_map,gge hi']
  rfl
 refine markW_sound hi hw hu hlow hW.size rfl rfl (fun _ _ h => h) (fun ad v h => ?_) (fun b' o' h1 h2 => ?_) (fun b' o' h => ⟨o',h,.inl rfl⟩) rfl ?_
 ·have hm := hi.mem ad v h
  have hne' : ad.block ≠ b := by
   intro e
   cases ad with
   | mk ab ao asp =>
    simp only at e
    subst e
    have hsp : asp = none := by
     cases asp with
     | none => rfl
     | some q => simp [World.cell?,hheap] at hm
    subst hsp
    rw [f10 rfl] at h; cases h
  have hadlt : ad.block < w.heap.size := by
   cases hh : w.heap[ad.block]? with
   | none =>
    cases ad with
    | mk ab ao asp => simp [World.cell?,hh] at hm
   | some q => exact (Array.getElem?_eq_some_iff.1 hh).1
  rw [<- hm]
  exact World.cell?_of_block (w := w) (hW.other ad.block hadlt hne')
 ·refine ⟨hW.other b' (hi.own_lt b' o' h1) ?_,rfl,fun _ => rfl⟩
  rintro rfl
  rw [f2] at h1
  cases h1
  exact h2 rfl
 ·cases p with
  | tmp t => obtain rfl := hw; exact hown
  | cell l off' => obtain ⟨b',hb',rfl⟩ := hw; exact ⟨b',hb',hown⟩
theorem own_take {ow : Owner} {ys zs : List Int} {b off n c : Nat} (ho : OwnRel w g ow true 1 (rowsOf (ys ++ zs)) (.slice (some ⟨b,off,none⟩) n c)) : OwnRel w g ow true 1 (rowsOf ys) (.slice (some ⟨b,off,none⟩) ys.length c) := by
 obtain ⟨b1,off1,c1,cur1,T1,f1,f2,f3,f4,f5,f6,f7,f8,f9,f10,f11⟩ := ho
 simp only [Value.slice.injEq,sjE,Addr.mk.injEq] at f1
 obtain ⟨⟨rfl,rfl,_⟩,rfl,rfl⟩ := f1
 rw [rowsOf_len,List.length_append] at f4
 refine ⟨b,off,c,cur1,T1,by rw [rowsOf_len],f2,f3,by rw [rowsOf_len]; omega,f5,f6,f7,rowsOf_row,fun i x hx => f9 i x ?_,f10,by intro h; cases h⟩
 rw [rowsOf_flat] at hx ⊢
 rw [List.map_append,gal (by have := (gsi.1 hx).1; exact this)]
 exact hx
theorem sortI_len (zs : List Int) : (sortI zs).length = zs.length := List.length_mergeSort ..
theorem compact_len (zs : List Int) : (Lib.compact zs).length <= zs.length := by
 simp only [Lib.compact,Lib.compactUpTo,List.length_map]
 have := List.length_filter_le (Lib.keeps zs.toArray) (List.range zs.length)
 simpa using this
theorem compNew_len (zs : List Int) : (compNew zs).length = zs.length := by
 have := compact_len zs
 simp [compNew]; omega
theorem enter_run {c : Call} {f : FuncId} (ho : o.op = .call c) (hx : c.callee = .value (.func f)) (he : Enters P f) : (execOp a.eval o).run P w = .ok (.enter f (c.args.map a.eval)) w := by
 obtain ⟨fn,h1,h2,h3⟩ := he
 have h3' : fn.body.isNone = false := by cases hb : fn.body <;> simp_all
 simp only [execOp,ho,resolve,hx,Act.eval,Deferred.ofValue,invoke,callFunc,Sem.run_bind,Sem.run_pure,Result.andThen_ok,run_program,h1,h2,h3',Bool.false_eq_true,if_false,Array.empty_append,Array.append_empty]
end
end Go.Vx
namespace Go.Vx
open Go Go.RowKit
def CallOk (P : Program) (cfg : Cfg) (e : Job -> Option Out) : Prop :=
 ∀ (f : FuncId) (args : List PV) (out : Out) (base : Nat) (w0 w : World) (g : Gh) (d : Nat) (s : St) (vals : Array Value) (us : List Value),e (.call f args s.bx) = some out -> Inv base w0 w g d s vals -> GlobOk cfg g →
  us.length = args.length -> (∀ (j : Nat) c u,args[j]? = some c -> us[j]? = some u -> RelA g c u) →
  Calls P f us.toArray w (fun
   | .returned v,w' => ∃ r s' g',finSt out s = some (r,s') /\ Inv base w0 w' g' d s' vals /\ Stp d s s' w w' g g' /\ RelP w' g' vals s' r v
   | _,_ => False)
def Reach (base : Nat) (w0 : World) (d : Nat) (s : St) (w : World) (g : Gh) (df : List Deferred) (s' : St) (a' : Act) (w' : World) : Prop :=
 a'.defers = df /\ ∃ g',Inv base w0 w' g' d s' a'.tmps /\ Stp d s s' w w' g g'
section
variable {P : Program} {cfg : Cfg} {base : Nat} {w0 w : World} {g : Gh} {d : Nat} {s : St} {vals : Array Value} {o : Oper} {a : Act} {e : Job -> Option Out}
theorem put_act (a : Act) (dst : Option Tmp) (v : Value) : (a.put dst v).tmps = putVals a.tmps dst v := by cases dst <;> rfl
theorem put_df (a : Act) (dst : Option Tmp) (v : Value) : (a.put dst v).defers = a.defers := by cases dst <;> rfl
theorem upon_goes {Q : Exit -> Act -> World -> Prop} {s' : St} (h : Goes P o a base w0 w g d s a.tmps s') : o.wp P a w (Reach base w0 d s w g a.defers s') Q := by
 obtain ⟨v,w',g',h1,h2,h3,_⟩ := h
 unfold Oper.wp
 rcases h1 with h1 | ⟨h1,rfl⟩
 ·rw [h1,Oper.upon_value]
  exact ⟨put_df ..,g',by rw [put_act]; exact h2,h3⟩
 ·rw [h1,Oper.upon_skip]
  exact ⟨put_df ..,g',by rw [put_act]; exact h2,h3⟩
theorem call_run (hc : CfgOk P cfg) {c : Call} {x : Operand} (ho : o.op = .call c) (hx : c.callee = .value x) {f : FuncId} {fn : Func} {cap : Array Value} (hv : a.eval x = .func (.func f) #[] cap) (hf : cfg.fn f = some fn) :
  (execOp a.eval o).run P w = .ok (.enter f (c.args.map a.eval ++ cap)) w := by
 obtain ⟨h1,h2,h3⟩ := hc.fn f fn hf
 have h3' : fn.body.isNone = false := by cases hb : fn.body <;> simp_all
 simp only [execOp,ho,resolve,hx,hv,Deferred.ofValue,invoke,callFunc,Sem.run_bind,Sem.run_pure,Result.andThen_ok,run_program,h1,h2,h3',Bool.false_eq_true,if_false,Array.empty_append]
theorem hook_sound (hc : CfgOk P cfg) (hi : Inv base w0 w g d s a.tmps) (hgl : GlobOk cfg g) {h : Hook} {args : List Operand} (hh : hookOf cfg o.op = some (h,args)) {pv : PV} {s1 : St} (hr : runHook cfg h args s = some (pv,s1)) {Q : Exit -> Act -> World -> Prop} :
  o.wp P a w (Reach base w0 d s w g a.defers (put s1 o.dst pv)) Q := by
 unfold hookOf at hh
 split at hh
 ·rename_i c ho
  split at hh
  ·rename_i f hx
   cases hf : cfg.hook f with
   | none => rw [hf] at hh; cases hh
   | some k =>
    rw [hf] at hh
    obtain ⟨e1,e2⟩ := Prod.mk.inj (sij hh)
    subst e1; subst e2
    have hF := hc.hook f k hf
    have hone : ∀ x,c.args.toList = [x] -> c.args.map a.eval = #[a.eval x] := fun x hargs => by
     have : c.args = #[x] := by rw [<- hargs]
     rw [this]; simp
    have hnil : ∀ x,s.val cfg x = .dat .nil -> ∃ ad,a.eval x = .slice ad 0 0 := fun x hv => by
     have hR : RelA g (.dat .nil) (a.eval x) := val_plain hi hgl rfl hv (by intro e; cases e) (by intro _ _ _ e; cases e) rfl rfl
     have hR' : RelD g.m .nil (a.eval x) := hR
     generalize a.eval x = u at hR'
     cases hR' with
     | nil ad => exact ⟨ad,rfl⟩
    unfold runHook at hr
    split at hr
    ·rename_i x hargs
     have hF' : IntsOk P f (fun _ _ _ => .tuple #[]) sortI := hF
     obtain ⟨hE,hN,hC⟩ := hF'
     have hrun := enter_run (a := a) (w := w) ho hx hE
     rw [hone x hargs] at hrun
     unfold Oper.wp
     rw [hrun,Oper.upon_enter]
     split at hr
     ·rename_i hv
      simp only [sjE,Prod.mk.injEq] at hr
      obtain ⟨rfl,rfl⟩ := hr
      obtain ⟨ad,e1⟩ := hnil x hv
      rw [e1]
      refine (hN ad w).mono fun en w' he => ?_
      obtain ⟨rfl,rfl⟩ := he
      obtain ⟨p1,p2,_⟩ := put_sound (pv := .tup []) (v := .tuple #[]) hi ⟨[],rfl,rfl,fun j c v h _ => by simp at h⟩ o.dst
      exact ⟨put_df ..,_,by rw [put_act]; exact p1,p2⟩
     ·rename_i hnv
      obtain ⟨⟨p,xs⟩,h1,h2⟩ := seqO_eq.1 hr
      obtain ⟨zs,h3,h4⟩ := seqO_eq.1 h2
      split at h4
      case isFalse => cases h4
      rename_i hlt62
      simp only [sjE,Prod.mk.injEq] at h4
      obtain ⟨rfl,rfl⟩ := h4
      obtain ⟨q1,q2⟩ := ownPlace_sound hi rfl h1
      obtain rfl := intRows_rel h3
      obtain ⟨ow,u,r1,r2,r3⟩ := at_rel hi q1
      rw [q2] at r2
      obtain rfl := sij r2
      have hu : ∃ b off n c,a.eval x = .slice (some ⟨b,off,none⟩) n c := by obtain ⟨b,off,c,_,_,f1,_⟩ := r3; exact ⟨b,off,_,c,f1⟩
      obtain ⟨b,off,n,cp,hu⟩ := hu
      rw [hu] at r3 q2 ⊢
      obtain ⟨cur,T,t1,rfl,t3,t4,t5,t6⟩ := own_ints r3
      refine (hC b off cp zs cur T w t1 t6 t3 t4 t5 hlt62).mono fun en w' he => ?_
      obtain ⟨rfl,hW⟩ := he
      obtain ⟨k1,k2⟩ := wrote_inv hi q1 r1 q2 r3 t1 (sortI_len zs) hW
      obtain ⟨p1,p2,_⟩ := put_sound (pv := .tup []) (v := .tuple #[]) k1 ⟨[],rfl,rfl,fun j c v h _ => by simp at h⟩ o.dst
      exact ⟨put_df ..,_,by rw [put_act]; exact p1,k2.trans p2⟩
    ·rename_i x hargs
     have hF' : IntsOk P f (fun a cap zs => .slice a (Lib.compact zs).length cap) compNew := hF
     obtain ⟨hE,hN,hC⟩ := hF'
     have hrun := enter_run (a := a) (w := w) ho hx hE
     rw [hone x hargs] at hrun
     unfold Oper.wp
     rw [hrun,Oper.upon_enter]
     split at hr
     ·rename_i hv
      simp only [sjE,Prod.mk.injEq] at hr
      obtain ⟨rfl,rfl⟩ := hr
      obtain ⟨ad,e1⟩ := hnil x hv
      rw [e1]
      refine (hN ad w).mono fun en w' he => ?_
      obtain ⟨rfl,rfl⟩ := he
      obtain ⟨p1,p2,_⟩ := put_sound (pv := .dat .nil) (v := .slice ad 0 0) hi (show RelD g.m .nil (.slice ad 0 0) from .nil ad) o.dst
      exact ⟨put_df ..,_,by rw [put_act]; exact p1,p2⟩
     ·rename_i hnv
      obtain ⟨⟨p,xs⟩,h1,h2⟩ := seqO_eq.1 hr
      obtain ⟨zs,h3,h4⟩ := seqO_eq.1 h2
      split at h4
      case isFalse => cases h4
      rename_i hlt62
      simp only [sjE,Prod.mk.injEq] at h4
      obtain ⟨rfl,rfl⟩ := h4
      obtain ⟨q1,q2⟩ := ownPlace_sound hi rfl h1
      obtain rfl := intRows_rel h3
      obtain ⟨ow,u,r1,r2,r3⟩ := at_rel hi q1
      rw [q2] at r2
      obtain rfl := sij r2
      have hu : ∃ b off n c,a.eval x = .slice (some ⟨b,off,none⟩) n c := by obtain ⟨b,off,c,_,_,f1,_⟩ := r3; exact ⟨b,off,_,c,f1⟩
      obtain ⟨b,off,n,cp,hu⟩ := hu
      rw [hu] at r3 q2 ⊢
      obtain ⟨cur,T,t1,rfl,t3,t4,t5,t6⟩ := own_ints r3
      refine (hC b off cp zs cur T w t1 t6 t3 t4 t5 hlt62).mono fun en w' he => ?_
      obtain ⟨rfl,hW⟩ := he
      obtain ⟨k1,k2⟩ := wrote_inv hi q1 r1 q2 r3 t1 (compNew_len zs) hW
      obtain ⟨g',u',m1,m2,m3,m4⟩ := dead_sound k1 (mark_at q1)
      have hpv : placeVal w' g a.tmps p = some (.slice (some ⟨b,off,none⟩) zs.length cp) := by
       obtain ⟨ow',u'',y1,y2,y3⟩ := at_rel k1 (mark_at q1)
       cases p with
       | tmp t => exact q2
       | cell l off' =>
        simp only [placeVal] at q2 ⊢
        cases hb' : g.blk[l]? with
        | none => rw [hb'] at q2; cases q2
        | some b' =>
         rw [hb'] at q2
         simp only [Option.bind_some] at q2 ⊢
         have hlt : l < s.bx.length := by rw [<- hi.blen]; exact (gsi.1 hb').1
         have hbo := (hi.boxes l b' _ hb' (gge hlt)).1
         obtain ⟨b1,off1,c1,cur1,T1,f1,f2,_⟩ := r3
         simp only [Value.slice.injEq,sjE,Addr.mk.injEq] at f1
         obtain ⟨⟨rfl,rfl,_⟩,_,rfl⟩ := f1
         have hne : b' ≠ b := by rintro rfl; rw [f2] at hbo; obtain ⟨q,_,rfl⟩ := r1; cases hbo
         rw [<- q2]
         exact World.cell?_of_block (w := w) (hW.other b' (hi.own_lt b' _ hbo) hne)
      rw [hpv] at m1
      obtain rfl := sij m1
      have hO := own_take (ys := Lib.compact zs) (show OwnRel w' g' (.res 0) true 1 (rowsOf (Lib.compact zs ++ List.replicate (zs.length - (Lib.compact zs).length) 0)) _ from m4)
      have hmm : (s.mark p (.own true 1 (rowsOf (compNew zs)))).mark p .dead = s.mark p .dead := mark_mark s p _ _ fun l off' e => by
       subst e
       obtain ⟨bx,e1,_⟩ := at_cell q1 (by intro e; cases e)
       exact ⟨bx,e1⟩
      rw [hmm] at m2 m3
      obtain ⟨p1,p2,_⟩ := put_sound (pv := .own true 1 (rowsOf (Lib.compact zs))) (v := .slice (some ⟨b,off,none⟩) (Lib.compact zs).length cp) m2 hO o.dst
      exact ⟨put_df ..,_,by rw [put_act]; exact p1,(k2.trans m3).trans p2⟩
    ·cases hr
  ·cases hh
 ·cases hh
theorem finSt_frz {pol : Option Pol} {out : Out} {s s1 : St} {r : PV} (h : finSt out s = some (r,s1)) : finSt (frzOut pol out) s = some (frzIf pol r,s1) := by
 cases pol with
 | none => exact h
 | some p =>
  cases p with
  | copy =>
   cases out with
   | ret q e =>
    cases e <;> (simp only [finSt,sjE,Prod.mk.injEq] at h; obtain ⟨rfl,rfl⟩ := h; rfl)
   | loop => cases h
  | _ => exact h
theorem callOk_segE (hcall : CallOk P cfg e) (cx : Cx) (rid : Nat) : CallOk P cfg (segE cx rid e) := by
 intro f args out base w0 w g d s vals us h hi hgl hlen hargs
 unfold segE at h
 split at h
 ·obtain ⟨out0,h1,h2⟩ := seqO_eq.1 h
  obtain rfl := sij h2
  refine (hcall f args out0 base w0 w g d s vals us h1 hi hgl hlen hargs).mono fun en w' he => ?_
  cases en with
  | returned v =>
   obtain ⟨r,s',g',q1,q2,q3,q4⟩ := he
   obtain ⟨g4,z1,z2,z3⟩ := relP_frz q2 (some .copy) q4
   exact ⟨frzIf (some .copy) r,s',g4,finSt_frz q1,z1,q3.trans z2,z3⟩
  | panicked => exact he.elim
  | outgrown => exact he.elim
 ·exact hcall f args out base w0 w g d s vals us h hi hgl hlen hargs
theorem hfn_segE (hfn : ∀ f args bx out,e (.call f args bx) = some out -> ∃ fn,cfg.fn f = some fn) (cx : Cx) (rid : Nat) : ∀ f args bx out,segE cx rid e (.call f args bx) = some out -> ∃ fn,cfg.fn f = some fn := by
 intro f args bx out h
 unfold segE at h
 split at h
 ·obtain ⟨out0,h1,_⟩ := seqO_eq.1 h
  exact hfn _ _ _ _ h1
 ·exact hfn _ _ _ _ h
theorem callOk_segC {e : Job -> Option Out} (hcall : CallOk P cfg e) (cx : Cx) (rid : Nat) : CallOk P (segC cx rid cfg) e :=
 fun f args out base w0 w g d s vals us h hi hgl hlen hargs => hcall f args out base w0 w g d s vals us h hi ((globOk_segC cx rid).1 hgl) hlen hargs
theorem hfn_segC {e : Job -> Option Out} (hfn : ∀ f args bx out,e (.call f args bx) = some out -> ∃ fn,cfg.fn f = some fn) (cx : Cx) (rid : Nat) : ∀ f args bx out,e (.call f args bx) = some out -> ∃ fn,(segC cx rid cfg).fn f = some fn := by
 rw [segC_fn]; exact hfn
theorem drew_inv (hi : Inv base w0 w g d s vals) (q : Nat) : Inv base w0 { w with drawn := w.drawn + q } g d s vals /\ Stp d s s w { w with drawn := w.drawn + q } g g := by
 have hl : Below base w0 { w with drawn := w.drawn + q } := hi.low.trans ⟨rfl,rfl,rfl,Nat.le_refl _,fun _ _ => rfl⟩
 refine ⟨⟨hl,hi.hb,hi.mem,hi.own_ge,hi.own_lt,hi.own_d,hi.blen,hi.nodup,hi.nbl,hi.boxes,hi.tl,fun i c v h1 h2 => ?_,hi.al⟩,?_⟩
 ·have := hi.tmps i c v h1 h2
  exact this
 ·obtain ⟨q1,q2,q3,q4,q5,q6,q7,q8⟩ := Stp.refl d s w g
  exact ⟨q1,q2,q3,q4,q5,q6,q7,q8⟩
def delPred (e : Job -> Option Out) (g : FuncId) (cap : List Nat) (bx : List Box) (z : Int) : Bool :=
 match e (.call g (.dat (.lit (.int .i64 z)) :: cap.map fun l => .ptr l 0) bx) with
 | some (.ret (.dat (.lit (.bool b))) none) => b
 | _ => false
theorem delRows_eq {f : FuncId} {cap : List Nat} {bx : List Box} : ∀ {zs ys : List Int},delRows e f cap bx zs = some ys →
  (∀ z ∈ zs,e (.call f (.dat (.lit (.int .i64 z)) :: cap.map fun l => .ptr l 0) bx) = some (.ret (.dat (.lit (.bool (delPred e f cap bx z)))) none)) /\ ys = zs.filter fun z => !delPred e f cap bx z
 | [],ys,h => by obtain rfl := sij h; exact ⟨fun z hz => (by cases hz),rfl⟩
 | z :: zs,ys,h => by
  unfold delRows at h
  obtain ⟨out,h1,h2⟩ := seqO_eq.1 h
  split at h2
  ·rename_i b
   obtain ⟨ys',h3,h4⟩ := seqO_eq.1 h2
   obtain ⟨q1,q2⟩ := delRows_eq h3
   have hp : delPred e f cap bx z = b := by unfold delPred; rw [h1]
   refine ⟨fun y hy => ?_,?_⟩
   ·rcases List.mem_cons.1 hy with rfl | hy
    ·rw [hp]; exact h1
    ·exact q1 y hy
   ·have := sij h4
    rw [List.filter_cons,hp,<- this,q2]
    cases b <;> simp
  ·cases h2
theorem del_sound (hc : CfgOk P cfg) (hcall : CallOk P cfg e) (hfn : ∀ f args bx out,e (.call f args bx) = some out -> ∃ fn,cfg.fn f = some fn) (hi : Inv base w0 w g d s a.tmps) (hgl : GlobOk cfg g) {h : Hook × List Operand} (hh : hookOf cfg o.op = some h) {x y : Operand} (hd : isDel h = some (x,y))
  {pv : PV} {s1 : St} (hr : runDel e cfg x y s = some (pv,s1)) {Q : Exit -> Act -> World -> Prop} : o.wp P a w (Reach base w0 d s w g a.defers (put s1 o.dst pv)) Q := by
 unfold isDel at hd
 split at hd
 case h_2 => cases hd
 rename_i x' y'
 obtain ⟨e1,e2⟩ := Prod.mk.inj (sij hd)
 subst e1; subst e2
 unfold hookOf at hh
 split at hh
 case h_2 => cases hh
 rename_i c ho
 split at hh
 case h_2 => cases hh
 rename_i f hx
 cases hf : cfg.hook f with
 | none => rw [hf] at hh; cases hh
 | some k =>
 rw [hf] at hh
 obtain ⟨e1,hargs⟩ := Prod.mk.inj (sij hh)
 subst e1
 have hF : DelOk P f := hc.hook f _ hf
 obtain ⟨hE,hN,hD⟩ := hF
 have hmap : c.args.map a.eval = #[a.eval x',a.eval y'] := by
  have : c.args = #[x',y'] := by rw [<- hargs]
  rw [this]; simp
 have hrun := enter_run (a := a) (w := w) ho hx hE
 rw [hmap] at hrun
 unfold Oper.wp
 rw [hrun,Oper.upon_enter]
 unfold runDel at hr
 split at hr
 case h_2 => cases hr
 rename_i gf cap hv
 have hR : RelA g (.clo gf cap) (a.eval y') := val_plain hi hgl rfl hv (by intro e; cases e) (by intro _ _ _ e; cases e) rfl rfl
 obtain ⟨cu,f1,f2,f3⟩ := hR
 rw [f1]
 have key : ∀ (t : Tmp) (xs : List (List D)),s.at (.tmp t) = .own true 1 xs -> placeVal w g a.tmps (.tmp t) = some (a.eval x') -> delSt e gf cap t s (.own true 1 xs) = some (pv,s1) →
   Calls P f #[a.eval x',.func (.func gf) #[] cu] w fun en w' => ∃ v,en = .returned v /\ Reach base w0 d s w g a.defers (put s1 o.dst pv) (a.put o.dst v) w' := by
  intro t xs q1 q2 hds
  obtain ⟨zs,h3,h4⟩ := seqO_eq.1 hds
  split at h4
  case isFalse => cases h4
  rename_i hcond
  obtain ⟨hlt,hne⟩ := hcond
  obtain ⟨ys,h5,h6⟩ := seqO_eq.1 h4
  simp only [sjE,Prod.mk.injEq] at h6
  obtain ⟨rfl,rfl⟩ := h6
  obtain rfl := intRows_rel h3
  obtain ⟨hall,rfl⟩ := delRows_eq h5
  have hEg : Enters P gf := by
   obtain ⟨z,zs',rfl⟩ := List.exists_cons_of_ne_nil hne
   obtain ⟨fn,hfn'⟩ := hfn _ _ _ _ (hall z mcs)
   obtain ⟨k1,k2,k3⟩ := hc.fn gf fn hfn'
   exact ⟨fn,k1,k2,k3⟩
  obtain ⟨ow,u,r1,r2,r3⟩ := at_rel hi q1
  rw [q2] at r2
  obtain rfl := sij r2
  have hu : ∃ b off n c,a.eval x' = .slice (some ⟨b,off,none⟩) n c := by obtain ⟨b,off,c,_,_,f1,_⟩ := r3; exact ⟨b,off,_,c,f1⟩
  obtain ⟨b,off,n,cp,hu⟩ := hu
  rw [hu] at r3 q2 ⊢
  obtain ⟨cur,T,t1,rfl,t3,t4,t5,t6⟩ := own_ints r3
  have hmk : ∀ u v : PV,(s.mark (.tmp t) u).mark (.tmp t) v = s.mark (.tmp t) v := fun u v => mark_mark s (.tmp t) u v fun l off' e => by cases e
  have hpl : ∀ (cu1 : List Int) (w1 : World) (g1 : Gh),Inv base w0 w1 g1 d (s.mark (.tmp t) (.own true 1 (rowsOf cu1))) a.tmps -> ∃ ow',OwnerAt g1 d (.tmp t) ow' /\ OwnRel w1 g1 ow' true 1 (rowsOf cu1) (.slice (some ⟨b,off,none⟩) zs.length cp) := by
   intro cu1 w1 g1 i1
   obtain ⟨ow',u',y1,y2,y3⟩ := at_rel i1 (mark_at q1)
   have y2' : a.tmps[t]? = some u' := y2
   have q2' : a.tmps[t]? = some (.slice (some ⟨b,off,none⟩) zs.length cp) := q2
   rw [q2'] at y2'
   obtain rfl := sij y2'
   exact ⟨ow',y1,y3⟩
  refine (hD gf cu (delPred e gf cap s.bx) (fun cu1 w1 => cu1.length = zs.length /\ ∃ g1,Inv base w0 w1 g1 d (s.mark (.tmp t) (.own true 1 (rowsOf cu1))) a.tmps /\ Stp d s (s.mark (.tmp t) (.own true 1 (rowsOf cu1))) w w1 g g1) b off cp zs w hEg hne ?_ ?_ ?_ ?_ ?_ t3 t4 hlt).mono fun en w' he => ?_
  ·rintro cu1 w1 ⟨hl,g1,i1,st1⟩
   obtain ⟨ow',y1,y3⟩ := hpl cu1 w1 g1 i1
   obtain ⟨cells,T',z1,z2,z3,z4,z5,z6⟩ := own_ints y3
   exact ⟨hl,cells,T',z1,z6,z5⟩
  ·rintro cu1 w1 ⟨hl,g1,i1,st1⟩
   obtain ⟨i2,st2⟩ := drew_inv i1 1
   exact ⟨hl,g1,i2,st1.trans st2⟩
  ·rintro cu1 cu2 w1 w2 cells T' ⟨hl,g1,i1,st1⟩ hl2 hh hW
   obtain ⟨ow',y1,y3⟩ := hpl cu1 w1 g1 i1
   obtain ⟨i2,st2⟩ := wrote_inv i1 (mark_at q1) y1 (show placeVal w1 g1 a.tmps (.tmp t) = _ from q2) y3 hh hl2 hW
   rw [hmk] at i2 st2
   exact ⟨hl2.trans hl,g1,i2,st1.trans st2⟩
  ·rintro cu1 w1 z hz ⟨hl,g1,i1,st1⟩
   have hC := hcall gf (.dat (.lit (.int .i64 z)) :: cap.map fun l => .ptr l 0) _ base w0 w1 g1 d (s.mark (.tmp t) (.own true 1 (rowsOf cu1))) a.tmps (.int .i64 z :: cu.toList) (hall z hz) i1 (hgl.grows st1.gr) (by simp [f2]) (fun j c u hj hu => by
    cases j with
    | zero =>
     simp only [List.getElem?_cons_zero,sjE] at hj hu
     subst hj; subst hu
     exact rfl
    | succ j =>
     simp only [List.getElem?_cons_succ,List.getElem?_map] at hj hu
     cases hq : cap[j]? with
     | none => rw [hq] at hj; cases hj
     | some l =>
      rw [hq] at hj
      obtain rfl := sij hj
      obtain ⟨bb,p1,p2⟩ := f3 _ _ hq
      rw [<- Array.getElem?_toList,hu] at p2
      obtain rfl := sij p2
      exact ⟨bb,st1.gr.blk l bb p1,rfl⟩)
   have harr : (#[Value.int .i64 z] ++ cu) = (Value.int .i64 z :: cu.toList).toArray := Array.ext' (by simp)
   rw [harr]
   refine Calls.mono hC fun en w2 he => ?_
   cases en with
   | returned v =>
    obtain ⟨r,s3,g3,p1,p2,p3,p4⟩ := he
    simp only [finSt,sjE,Prod.mk.injEq] at p1
    obtain ⟨rfl,rfl⟩ := p1
    have hv : v = .bool (delPred e gf cap s.bx z) := p4
    exact ⟨by rw [hv],hl,g3,p2,st1.trans p3⟩
   | panicked => exact he.elim
   | outgrown => exact he.elim
  ·have hs : s.mark (.tmp t) (.own true 1 (rowsOf zs)) = s := by
    show ({ s with ts := s.ts.set t _ } : St) = s
    rw [set_getD q1 (by intro e; cases e)]
   refine ⟨rfl,g,?_,?_⟩
   ·rw [hs]; exact hi
   ·rw [hs]; exact Stp.refl d s w g
  ·obtain ⟨rfl,hl,g1,i1,st1⟩ := he
   obtain ⟨g2,u',m1,m2,m3,m4⟩ := dead_sound i1 (mark_at q1)
   have hpv : placeVal w' g1 a.tmps (.tmp t) = some (.slice (some ⟨b,off,none⟩) zs.length cp) := q2
   rw [hpv] at m1
   obtain rfl := sij m1
   have hO := own_take (show OwnRel w' g2 (.res 0) true 1 (rowsOf (_ ++ _)) _ from m4)
   rw [hmk] at m2 m3
   obtain ⟨p1,p2,_⟩ := put_sound (pv := .own true 1 (rowsOf (zs.filter fun z => !delPred e gf cap s.bx z))) (v := .slice (some ⟨b,off,none⟩) (zs.filter fun z => !delPred e gf cap s.bx z).length cp) m2 hO o.dst
   exact ⟨_,rfl,put_df ..,_,by rw [put_act]; exact p1,(st1.trans m3).trans p2⟩
 split at hr
 ·rename_i hxv
  simp only [sjE,Prod.mk.injEq] at hr
  obtain ⟨rfl,rfl⟩ := hr
  have hX : RelA g (.dat .nil) (a.eval x') := val_plain hi hgl rfl hxv (by intro e; cases e) (by intro _ _ _ e; cases e) rfl rfl
  have hX' : RelD g.m .nil (a.eval x') := hX
  generalize a.eval x' = u at hX'
  cases hX' with
  | nil ad =>
   refine (hN ad gf cu w).mono fun en w' he => ?_
   obtain ⟨rfl,q,rfl⟩ := he
   obtain ⟨i2,st2⟩ := drew_inv hi q
   obtain ⟨p1,p2,_⟩ := put_sound (pv := .dat .nil) (v := .slice ad 0 0) i2 (show RelD g.m .nil (.slice ad 0 0) from .nil ad) o.dst
   exact ⟨put_df ..,_,by rw [put_act]; exact p1,st2.trans p2⟩
 ·rename_i ex kk xs hxv
  split at hr
  case h_2 => cases hr
  rename_i t
  by_cases hk : ex = true /\ kk = 1
  ·obtain ⟨rfl,rfl⟩ := hk
   obtain ⟨p1,p2⟩ := ownPlace_sound (a := a) (x := .tmp t) hi rfl (show ownPlace cfg (.tmp t) s = some (.tmp t,xs) by simp only [ownPlace,hxv])
   exact (key t xs p1 p2 hr).mono fun en w' he => by obtain ⟨v,rfl,h⟩ := he; exact h
  ·exfalso
   unfold delSt at hr
   split at hr
   ·rename_i hq; cases hq; exact hk ⟨rfl,rfl⟩
   ·cases hr
 ·rename_i t hxv
  cases hat : s.at (.tmp t) with
  | own ex kk xs =>
   rw [hat] at hr
   by_cases hk : ex = true /\ kk = 1
   ·obtain ⟨rfl,rfl⟩ := hk
    obtain ⟨p1,p2⟩ := ownPlace_sound (a := a) (x := x') hi rfl (show ownPlace cfg x' s = some (.tmp t,xs) by simp only [ownPlace,hxv,hat])
    exact (key t xs p1 p2 hr).mono fun en w' he => by obtain ⟨v,rfl,h⟩ := he; exact h
   ·exfalso
    unfold delSt at hr
    split at hr
    ·rename_i hq; cases hq; exact hk ⟨rfl,rfl⟩
    ·cases hr
  | _ => rw [hat] at hr; cases hr
 ·cases hr
theorem aopX_sound (hc : CfgOk P cfg) (hcall : CallOk P cfg e) (hfn : ∀ f args bx out,e (.call f args bx) = some out -> ∃ fn,cfg.fn f = some fn) (hi : Inv base w0 w g d s a.tmps) (hgl : GlobOk cfg g) {pol : Option Pol} {s' : St} (h : aopX e cfg pol o s = some s') {Q : Exit -> Act -> World -> Prop} :
  o.wp P a w (Reach base w0 d s w g a.defers s') Q := by
 unfold aopX at h
 split at h
 ·rename_i hk hkk
  split at h
  ·rename_i q hq
   obtain ⟨⟨pv,s1⟩,h1,h2⟩ := seqO_eq.1 h
   obtain rfl := sij h2
   exact del_sound hc hcall hfn hi hgl hkk hq h1
  obtain ⟨⟨pv,s1⟩,h1,h2⟩ := seqO_eq.1 h
  obtain rfl := sij h2
  exact hook_sound hc hi hgl hkk h1
 rename_i hnh
 split at h
 ·rename_i c hcc
  obtain ⟨⟨job,s1⟩,h1,h2⟩ := seqO_eq.1 h
  obtain ⟨out,h3,h4⟩ := seqO_eq.1 h2
  unfold isFnCall at hcc
  split at hcc
  ·rename_i cl ho
   split at hcc
   ·rename_i x hx
    obtain rfl := sij hcc
    unfold prep at h1
    obtain ⟨⟨pvs,s2⟩,h5,h6⟩ := seqO_eq.1 h1
    split at h6
    ·rename_i f cap hv
     simp only [sjE,Prod.mk.injEq] at h6
     obtain ⟨rfl,rfl⟩ := h6
     obtain ⟨fn,hfn'⟩ := hfn _ _ _ _ h3
     obtain ⟨g1,i1,st1,l1,r1⟩ := fetchs_sound (a := a) rfl _ hi hgl h5
     have hgl1 := hgl.grows st1.gr
     have hR : RelA g1 (.clo f cap) (a.eval x) := val_plain i1 hgl1 rfl hv (by intro e; cases e) (by intro _ _ _ e; cases e) rfl rfl
     obtain ⟨cu,e1,e2,e3⟩ := hR
     have hrun := call_run (a := a) (w := w) hc ho hx e1 hfn'
     unfold Oper.wp
     rw [hrun,Oper.upon_enter]
     have hC := hcall f _ out base w0 w g1 d s2 a.tmps ((cl.args.map a.eval ++ cu).toList) h3 i1 hgl1 (by simp [l1,e2]) (fun j c u hj hu => by
      simp only [Array.toList_append,Array.toList_map] at hu
      by_cases hlt : j < pvs.length
      ·rw [gal hlt] at hj
       rw [gal (by simpa [l1] using hlt),List.getElem?_map] at hu
       cases hx' : cl.args.toList[j]? with
       | none => rw [hx'] at hu; cases hu
       | some y =>
        rw [hx'] at hu
        obtain rfl := sij hu
        exact r1 j y c hx' hj
      ·rw [gar (by omega),List.getElem?_map] at hj
       rw [gar (by simp [<- l1]; omega)] at hu
       simp only [List.length_map,<- l1] at hu
       cases hq : cap[j - pvs.length]? with
       | none => rw [hq] at hj; cases hj
       | some l =>
        rw [hq] at hj
        obtain rfl := sij hj
        obtain ⟨b,q1,q2⟩ := e3 _ _ hq
        rw [<- Array.getElem?_toList] at q2
        rw [hu] at q2
        obtain rfl := sij q2
        exact ⟨b,q1,rfl⟩)
     refine Calls.mono (by simpa only [Array.toArray_toList] using hC) fun en w' he => ?_
     cases en with
     | returned v =>
      obtain ⟨r,s3,g3,q1,q2,q3,q4⟩ := he
      obtain ⟨r',s4,q5,rfl⟩ := fin_eq h4
      rw [finSt_frz q1] at q5
      simp only [sjE,Prod.mk.injEq] at q5
      obtain ⟨rfl,rfl⟩ := q5
      obtain ⟨g4,z1,z2,z3⟩ := relP_frz q2 pol q4
      obtain ⟨p1,p2,_⟩ := put_sound z1 z3 o.dst
      exact ⟨put_df ..,_,by rw [put_act]; exact p1,((st1.trans q3).trans z2).trans p2⟩
     | panicked => exact he.elim
     | outgrown => exact he.elim
    ·cases h6
   ·cases hcc
  ·cases hcc
 ·exact upon_goes (aop_sound hc hi hgl rfl h)
theorem wants_sound (hi : Inv base w0 w g d s a.tmps) {ops : Array Oper} {b : Bool} (h : wants ops.toList o s = some b) : Region.wanted o (yielded ops a.tmps) = b := by
 unfold wants at h
 unfold Region.wanted
 split at h
 ·rename_i hg
  rw [hg]
  exact sij h
 ·rename_i j want hg
  rw [hg]
  obtain ⟨q,h1,h2⟩ := seqO_eq.1 h
  obtain ⟨t,h3,h4⟩ := seqO_eq.1 h2
  have h1' : ops[j]? = some q := by rw [<- Array.getElem?_toList]; exact h1
  have hval : ∀ v,s.ts.getD t .dead = .dat (.lit v) -> a.tmps[t]? = some v := by
   intro v hv
   have h5 := getD_some hv (by intro e; cases e)
   have hlt : t < a.tmps.size := by rw [hi.tl]; exact (gsi.1 h5).1
   have h6 := hi.tmps t _ _ h5 (agg hlt)
   rw [agg hlt]
   exact congrArg some h6
  simp only [yielded,h1',Option.bind_some,h3]
  split at h4
  ·rename_i b' hv
   obtain rfl := sij h4
   rw [hval _ hv]
   rfl
  ·rename_i v hnb hv
   obtain rfl := sij h4
   rw [hval _ hv]
   cases v <;> first | rfl | exact absurd rfl (hnb _)
  ·cases h4
theorem aopG_sound (hc : CfgOk P cfg) (hcall : CallOk P cfg e) (hfn : ∀ f args bx out,e (.call f args bx) = some out -> ∃ fn,cfg.fn f = some fn) (hi : Inv base w0 w g d s a.tmps) (hgl : GlobOk cfg g) {pol : Option Pol} {ops : Array Oper} {s' : St}
  (h : aopG e cfg pol ops.toList o s = some s') {i : Nat} (ho : ops[i]? = some o) {Q : Exit -> Act -> World -> Prop} : wpOp P ops Q i (Reach base w0 d s w g a.defers s') a w := by
 unfold aopG at h
 obtain ⟨b,h1,h2⟩ := seqO_eq.1 h
 have hw := wants_sound hi h1
 unfold wpOp
 rw [ho]
 simp only [hw]
 cases b with
 | true => exact .inl (aopX_sound hc hcall hfn hi hgl h2)
 | false =>
  obtain rfl := sij h2
  obtain ⟨p1,p2,_⟩ := put_sound (pv := .dat (.lit undef)) (v := undef) hi rfl o.dst
  exact ⟨put_df ..,_,by rw [put_act]; exact p1,p2⟩
theorem Reach.trans {s1 s2 : St} {a2 : Act} {w1 w2 : World} {df : List Deferred} {g1 : Gh} (h : Stp d s s1 w w1 g g1) (h2 : Reach base w0 d s1 w1 g1 df s2 a2 w2) : Reach base w0 d s w g df s2 a2 w2 := by
 obtain ⟨h3,g2,h4,h5⟩ := h2
 exact ⟨h3,g2,h4,h.trans h5⟩
theorem aops_sound (hc : CfgOk P cfg) (hcall : CallOk P cfg e) (hfn : ∀ f args bx out,e (.call f args bx) = some out -> ∃ fn,cfg.fn f = some fn) {cx : Cx} {rid : Nat} {ops : Array Oper} {Q : Exit -> Act -> World -> Prop} {df : List Deferred} {s' : St} :
  ∀ (os : List Oper) (i : Nat) {g : Gh} {s : St} {w : World} {a : Act},os = ops.toList.drop i -> aops e cfg cx rid ops.toList i os s = some s' -> Inv base w0 w g d s a.tmps -> GlobOk cfg g -> a.defers = df →
   (∀ a' w',Reach base w0 d s w g df s' a' w' -> Q .normal a' w') -> wpOps P ops Q (List.range' i os.length) a w
 | [],i,g,s,w,a,hd,h,hi,hgl,hdf,hQ => by
  obtain rfl := sij h
  exact hQ a w ⟨hdf,g,hi,Stp.refl d s w g⟩
 | o :: os,i,g,s,w,a,hd,h,hi,hgl,hdf,hQ => by
  simp only [aops] at h
  obtain ⟨s1,h1,h2⟩ := seqO_eq.1 h
  have ho : ops[i]? = some o := by
   have : (ops.toList.drop i)[0]? = some o := by rw [<- hd]; rfl
   rw [List.getElem?_drop] at this
   rw [<- Array.getElem?_toList]; exact this
  rw [List.length_cons,List.range'_succ,wpOps_cons]
  refine wpOp_mono (fun a1 w1 hr => ?_) (aopG_sound hc hcall hfn hi hgl (aopR_G h1) ho)
  obtain ⟨k1,g1,k2,k3⟩ := hr
  refine aops_sound hc hcall hfn os (i + 1) ?_ h2 k2 (hgl.grows k3.gr) (k1.trans hdf) fun a' w' hr' => hQ a' w' (Reach.trans k3 hr')
  have := congrArg List.tail hd
  rw [List.tail_cons,List.tail_drop] at this
  exact this
end
end Go.Vx
