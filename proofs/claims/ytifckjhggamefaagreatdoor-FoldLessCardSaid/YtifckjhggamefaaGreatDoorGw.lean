/- The small case of layer 11: a task or nothing. No condition. -/
import Derived.Test.YtifckjhggamefaaGreatDoorGv
import Derived.KernelRfl
import Derived.Test.YtifckjhggamefaaGreatDoorGq
set_option linter.unusedSimpArgs false
set_option linter.unusedVariables false
set_option linter.unusedSectionVars false
namespace Go.Proofs.YtifckjhggamefaaGreatDoor
open Go Go.Vx
set_option maxRecDepth 10000
set_option maxHeartbeats 1000000
theorem i64_s {x : Int} (h : -1000 <= x /\ x <= 1000) : i64 x := by
 unfold i64; omega
def tz : Trm := .mk 0 0 []
def tyes : Trm := .mk 10 0 [.mk 2 0 [],.mk 2 0 []]
def nalt : Nt := ⟨[⟨1,0,tz⟩,⟨5,0,tz⟩,⟨3,0,tz⟩,⟨5,0,tz⟩,⟨2,0,tz⟩],[⟨0,1,false,tz⟩,⟨1,2,false,tyes⟩,⟨1,3,true,tz⟩,⟨2,3,false,tz⟩,⟨3,4,false,tz⟩]⟩
def balt : Blk := .mk 5 1 0 [.mk 2 2 0 [] [],.mk 1 0 0 [] []] []
theorem tz_is : IsT tz 0 0 .nil := by
 rw [tz,IsT]
 exact ⟨rfl,rfl,i64_s (by omega),i64_s (by omega),[],⟨0,rfl,by simp,rfl⟩,by rw [IsT.IsTs],by simp⟩
theorem leaf_is : IsT (.mk 2 0 []) 2 0 .nil := by
 rw [IsT]
 exact ⟨rfl,rfl,i64_s (by omega),i64_s (by omega),[],⟨0,rfl,by simp,rfl⟩,by rw [IsT.IsTs],by simp⟩
theorem tyes_is : IsT tyes 10 0 (.sl 3 [[dI 2,dI 0,.nil],[dI 2,dI 0,.nil]]) := by
 rw [tyes,IsT]
 refine ⟨rfl,rfl,i64_s (by omega),i64_s (by omega),_,⟨3,rfl,by simp,rfl⟩,?_,by simp⟩
 rw [IsT.IsTs]
 refine ⟨_,_,_,_,rfl,leaf_is,?_⟩
 rw [IsT.IsTs]
 exact ⟨_,_,_,_,rfl,leaf_is,by rw [IsT.IsTs]⟩
theorem nalt_is : IsN nalt altN altF := by
 refine ⟨_,_,⟨5,rfl,by simp,rfl⟩,⟨rfl,fun i x hx => ?_⟩,by simp [nalt],⟨6,rfl,by simp,rfl⟩,⟨rfl,fun i x hx => ?_⟩,by simp [nalt]⟩
 ·match i,hx with
  | 0,hx => obtain rfl := sij hx; exact ⟨_,rfl,i64_s (by show (-1000 : Int) <= 1 /\ (1 : Int) <= 1000; omega),i64_s (by show (-1000 : Int) <= 0 /\ (0 : Int) <= 1000; omega),_,_,_,rfl,tz_is⟩
  | 1,hx => obtain rfl := sij hx; exact ⟨_,rfl,i64_s (by show (-1000 : Int) <= 5 /\ (5 : Int) <= 1000; omega),i64_s (by show (-1000 : Int) <= 0 /\ (0 : Int) <= 1000; omega),_,_,_,rfl,tz_is⟩
  | 2,hx => obtain rfl := sij hx; exact ⟨_,rfl,i64_s (by show (-1000 : Int) <= 3 /\ (3 : Int) <= 1000; omega),i64_s (by show (-1000 : Int) <= 0 /\ (0 : Int) <= 1000; omega),_,_,_,rfl,tz_is⟩
  | 3,hx => obtain rfl := sij hx; exact ⟨_,rfl,i64_s (by show (-1000 : Int) <= 5 /\ (5 : Int) <= 1000; omega),i64_s (by show (-1000 : Int) <= 0 /\ (0 : Int) <= 1000; omega),_,_,_,rfl,tz_is⟩
  | 4,hx => obtain rfl := sij hx; exact ⟨_,rfl,i64_s (by show (-1000 : Int) <= 2 /\ (2 : Int) <= 1000; omega),i64_s (by show (-1000 : Int) <= 0 /\ (0 : Int) <= 1000; omega),_,_,_,rfl,tz_is⟩
  | i + 5,hx => simp [nalt] at hx
 ·match i,hx with
  | 0,hx => obtain rfl := sij hx; exact ⟨_,rfl,i64_s (by show (-1000 : Int) <= 0 /\ (0 : Int) <= 1000; omega),i64_s (by show (-1000 : Int) <= 1 /\ (1 : Int) <= 1000; omega),_,_,_,rfl,tz_is⟩
  | 1,hx => obtain rfl := sij hx; exact ⟨_,rfl,i64_s (by show (-1000 : Int) <= 1 /\ (1 : Int) <= 1000; omega),i64_s (by show (-1000 : Int) <= 2 /\ (2 : Int) <= 1000; omega),_,_,_,rfl,tyes_is⟩
  | 2,hx => obtain rfl := sij hx; exact ⟨_,rfl,i64_s (by show (-1000 : Int) <= 1 /\ (1 : Int) <= 1000; omega),i64_s (by show (-1000 : Int) <= 3 /\ (3 : Int) <= 1000; omega),_,_,_,rfl,tz_is⟩
  | 3,hx => obtain rfl := sij hx; exact ⟨_,rfl,i64_s (by show (-1000 : Int) <= 2 /\ (2 : Int) <= 1000; omega),i64_s (by show (-1000 : Int) <= 3 /\ (3 : Int) <= 1000; omega),_,_,_,rfl,tz_is⟩
  | 4,hx => obtain rfl := sij hx; exact ⟨_,rfl,i64_s (by show (-1000 : Int) <= 3 /\ (3 : Int) <= 1000; omega),i64_s (by show (-1000 : Int) <= 4 /\ (4 : Int) <= 1000; omega),_,_,_,rfl,tz_is⟩
  | i + 5,hx => simp [nalt] at hx
theorem check_yes : checkT tyes = (2,0) := by
 first | rfl | decide | simp [checkT,tyes]
theorem nalt_ok : OkN nalt := by
 have e01 : Edge nalt 0 1 := ⟨_,mcs,rfl,rfl⟩
 have e12 : Edge nalt 1 2 := ⟨⟨1,2,false,tyes⟩,by simp [nalt],rfl,rfl⟩
 have e13 : Edge nalt 1 3 := ⟨⟨1,3,true,tz⟩,by simp [nalt],rfl,rfl⟩
 have e23 : Edge nalt 2 3 := ⟨⟨2,3,false,tz⟩,by simp [nalt],rfl,rfl⟩
 have e34 : Edge nalt 3 4 := ⟨⟨3,4,false,tz⟩,by simp [nalt],rfl,rfl⟩
 have f0 : Rch (EdgeB nalt false) 0 0 := .refl
 have f1 := f0.step (c := 1) (by simpa [EdgeB] using e01)
 have f2 := f1.step (c := 2) (by simpa [EdgeB] using e12)
 have f3 := f1.step (c := 3) (by simpa [EdgeB] using e13)
 have f4 := f3.step (c := 4) (by simpa [EdgeB] using e34)
 have g4 : Rch (EdgeB nalt true) 4 4 := .refl
 have g3 := g4.step (c := 3) (by simpa [EdgeB] using e34)
 have g2 := g3.step (c := 2) (by simpa [EdgeB] using e23)
 have g1 := g3.step (c := 1) (by simpa [EdgeB] using e13)
 have g0 := g1.step (c := 0) (by simpa [EdgeB] using e01)
 have hs : startN nalt = 0 := rfl
 have he : endN nalt = 4 := rfl
 have h2 : ofT tyes 2 = true := by rw [ofT,check_yes]; rfl
 refine ⟨by simp [nalt],by simp [nalt],fun x hx => ?_,fun f hf => ?_,fun i hi => ?_,by rw [hs]; omega,by rw [he]; omega,fun i hi => ?_⟩
 ·simp only [nalt,List.mem_cons,List.not_mem_nil,or_false] at hx
  rcases hx with rfl | rfl | rfl | rfl | rfl <;> rfl
 ·have l1 : leadsN ofT nalt ⟨1,2,false,tyes⟩ = true := by
   show ((true && true && true && (if kindN nalt 1 ≠ 5 ∨ (outsN nalt 1).length < 2 then _ else if false = true then _ else ofT tyes 2)) = true)
   rw [if_neg (by decide),if_neg (by decide),h2]; rfl
  simp only [nalt,List.mem_cons,List.not_mem_nil,or_false] at hf
  rcases hf with rfl | rfl | rfl | rfl | rfl
  ·rfl
  ·exact l1
  ·rfl
  ·rfl
  ·rfl
 ·have hi : i < 5 := hi
  match i,hi with
  | 0,_ => rfl
  | 1,_ => rfl
  | 2,_ => rfl
  | 3,_ => rfl
  | 4,_ => rfl
 ·rw [hs,he]
  have hi : i < 5 := hi
  match i,hi with
  | 0,_ => exact ⟨f0,g0⟩
  | 1,_ => exact ⟨f1,g1⟩
  | 2,_ => exact ⟨f2,g2⟩
  | 3,_ => exact ⟨f3,g3⟩
  | 4,_ => exact ⟨f4,g4⟩
def walt : Wb := ⟨[balt],[(-1,0,0),(0,-1,4)]⟩
theorem nalt_next : nextW nalt (beginW nalt) = (walt,2) := by rfl
theorem walt_next : nextW nalt walt = (walt,0) := by rfl
theorem nalt_fold : foldN nalt = balt := by
 have h : foldsW nalt 100 (beginW nalt) = walt := by
  show foldsW nalt 99 (nextW nalt (beginW nalt)).1 = walt
  rw [nalt_next]
  exact folds_stop (by rw [walt_next]) (by rw [walt_next]) 99
 rw [foldN,h]; rfl
theorem nalt_foldev (bx : List Box) : ev cfg (.call 9 [Nq altN altF] bx) = Rq (.tup [pB balt,I 0]) := by
 have hz : ∀ t ∈ termsN nalt,sizeT t <= 1000000 := by
  intro t ht
  simp only [termsN,nalt,List.map_cons,List.map_nil,List.cons_append,List.nil_append,List.mem_cons,List.not_mem_nil,or_false] at ht
  rcases ht with rfl | rfl | rfl | rfl | rfl | rfl | rfl | rfl | rfl | rfl <;> simp [tz,tyes,sizeT,sizeT.go]
 have hf := (fold_ev nalt_is (by simp [nalt]) (by simp [nalt]) hz bx).1 nalt_ok
 rw [nalt_fold] at hf
 exact hf
theorem text_k1 (b0 b1 b2 b3 : Box) : evN cfg 90 (.call 26 [Wq 5 1 0 (mkD 5 (cB.cBs [.mk 2 2 0 [] [],.mk 1 0 0 [] []])) (mkD 3 (([] : List Lk).map lnkD))] [b0,b1,b2,b3]) = Rq (.tup [S ⟨#[40,97,108,116,58,49,32,50,32,45,41]⟩,I 0]) := by kernel_rfl
theorem malt_ev1 (c0 : Box) : ev cfg (.call 8 [] [c0]) = Rq (B true) :=
 es (malt_f1 nalt_foldev (mkD_one 5 _) (mkD_one 3 _) fun b0 b1 b2 b3 => ev_of cfg (text_k1 b0 b1 b2 b3))
theorem text_k2 (b0 b1 b2 b3 b4 : Box) : evN cfg 90 (.call 26 [Wq 5 1 0 (mkD 5 (cB.cBs [.mk 2 2 0 [] [],.mk 1 0 0 [] []])) (mkD 3 (([] : List Lk).map lnkD))] [b0,b1,b2,b3,b4]) = Rq (.tup [S ⟨#[40,97,108,116,58,49,32,50,32,45,41]⟩,I 0]) := by kernel_rfl
theorem malt_ev2 (c0 c1 : Box) : ev cfg (.call 8 [] [c0,c1]) = Rq (B true) :=
 es (malt_f2 nalt_foldev (mkD_one 5 _) (mkD_one 3 _) fun b0 b1 b2 b3 b4 => ev_of cfg (text_k2 b0 b1 b2 b3 b4))
theorem text_k3 (b0 b1 b2 b3 b4 b5 : Box) : evN cfg 90 (.call 26 [Wq 5 1 0 (mkD 5 (cB.cBs [.mk 2 2 0 [] [],.mk 1 0 0 [] []])) (mkD 3 (([] : List Lk).map lnkD))] [b0,b1,b2,b3,b4,b5]) = Rq (.tup [S ⟨#[40,97,108,116,58,49,32,50,32,45,41]⟩,I 0]) := by kernel_rfl
theorem malt_ev3 (c0 c1 c2 : Box) : ev cfg (.call 8 [] [c0,c1,c2]) = Rq (B true) :=
 es (malt_f3 nalt_foldev (mkD_one 5 _) (mkD_one 3 _) fun b0 b1 b2 b3 b4 b5 => ev_of cfg (text_k3 b0 b1 b2 b3 b4 b5))
section
variable {n : Nt} {N F : D}
def isB' (b : Blk) : Prop := match b with
 | .mk k n a ks ls => IsB (.mk k n a ks ls) k n a (mkD 5 (cB.cBs ks)) (mkD 3 (ls.map lnkD))
theorem isBs_in : ∀ {bs : List Blk},(∀ b ∈ bs,isB' b) -> IsB.IsBs bs (cB.cBs bs)
 | [],_ => by rw [IsB.IsBs]; rfl
 | b :: bs,h => by
  have h1 := h b mcs
  have h2 := isBs_in (bs := bs) fun c hc => h c (mcm _ hc)
  obtain ⟨k,n,a,ks,ls⟩ := b
  rw [IsB.IsBs]
  exact ⟨k,n,a,_,_,cB.cBs bs,rfl,h1,h2⟩
theorem isB_mk {k n a : Int} {ks : List Blk} {ls : List Lk} (h1 : i64 k) (h2 : i64 n) (h3 : i64 a) (hk : ∀ b ∈ ks,isB' b) (l1 : ks.length <= 1000) (l2 : ls.length <= 1000) (hl : ∀ x ∈ ls,i64 x.1 /\ i64 x.2.1 /\ i64 x.2.2) : isB' (.mk k n a ks ls) := by
 show IsB _ _ _ _ _ _
 rw [IsB]
 exact ⟨rfl,rfl,rfl,h1,h2,h3,cB.cBs ks,mkD_isS 5 _,isBs_in hk,by omega,mkD_isS 3 _,by omega,hl⟩
theorem okK_is : ∀ (b : Blk),okK b -> szB b <= 1000 -> isB' b
 | .mk k n a ks ls,h,hs => by
  rw [okK] at h
  obtain ⟨hk,hn,ha,rfl,hks⟩ := h
  rw [szB] at hs
  have := szBs_len (xs := ks)
  exact isB_mk (i64_s (by omega)) (i64_s (by omega)) (i64_s (by omega)) (go ks hks (by omega)) (by omega) (by simp) (by simp)
where
 go : ∀ (bs : List Blk),okK.okKs bs -> szB.szBs bs <= 1000 -> ∀ b ∈ bs,isB' b
 | [],_,_ => by simp
 | b :: bs,h,hs => by
  rw [okK.okKs] at h
  rw [szB.szBs] at hs
  have h1 := okK_is b h.1 (by omega)
  have h2 := go bs h.2 (by omega)
  intro c hc
  rcases List.mem_cons.1 hc with rfl | hc
  ·exact h1
  ·exact h2 c hc
theorem okK_ok : ∀ (b : Blk),okK b -> szB b <= 100 -> okB b
 | .mk k n a ks ls,h,hs => by
  rw [okK] at h
  obtain ⟨hk,hn,ha,rfl,hks⟩ := h
  rw [szB] at hs
  have := szBs_len (xs := ks)
  rw [okB]
  exact ⟨by omega,by simp,go ks hks (by omega)⟩
where
 go : ∀ (bs : List Blk),okK.okKs bs -> szB.szBs bs <= 100 -> okB.go bs
 | [],_,_ => by rw [okB.go]; trivial
 | b :: bs,h,hs => by
  rw [okK.okKs] at h
  rw [szB.szBs] at hs
  rw [okB.go]
  exact ⟨okK_ok b h.1 (by omega),go bs h.2 (by omega)⟩
theorem web_kids {w : Wb} (hw : InvW n w) : ∀ b ∈ w.ks,okK b /\ szB b <= 64 := by
 intro b hb
 obtain ⟨i,hi⟩ := List.getElem?_of_mem hb
 refine ⟨(hw.kid i b hi).ok,?_⟩
 have h3 := set_size (c := emptyB) hi
 have h4 := hw.size
 have h7 := sizeAt_get hi
 have h8 := drop_size (ks := w.ks) (gone := fun x => x == i) (L := [i]) (by simp) (by simp)
 simp [h7] at h8
 omega
theorem web_is {w : Wb} (hn : n.flows.length <= 100) (hw : InvW n w) : isB' (.mk 9 0 0 w.ks w.ls) := by
 have hl := hw.lens
 refine isB_mk (i64_s (by omega)) (i64_s (by omega)) (i64_s (by omega)) (fun b hb => okK_is b (web_kids hw b hb).1 (by have := (web_kids hw b hb).2; omega)) (by omega) (by omega) fun x hx => ?_
 have := hw.rng x hx
 exact ⟨i64_s (by omega),i64_s (by omega),i64_s (by omega)⟩
theorem oks_in : ∀ {bs : List Blk},(∀ b ∈ bs,okB b) -> okB.go bs
 | [],_ => by rw [okB.go]; trivial
 | b :: bs,h => by rw [okB.go]; exact ⟨h b mcs,oks_in fun c hc => h c (mcm _ hc)⟩
theorem web_ok {w : Wb} (hw : InvW n w) : okB (.mk 9 0 0 w.ks w.ls) := by
 have hl := hw.lens
 rw [okB]
 exact ⟨by omega,by omega,oks_in fun b hb => okK_ok b (web_kids hw b hb).1 (by have := (web_kids hw b hb).2; omega)⟩
inductive RightC (n : Nt) : Int -> Int -> Int -> List Blk -> List Lk -> Prop
 | empty (k : Int) (hk : k = 1 ∨ k = 10) : RightC n k 0 0 [] []
 | leaf (nd : Int) (h : inN n nd = true) (hk : kindN n nd = 3 ∨ kindN n nd = 4 ∨ kindN n nd = 8) : RightC n 2 nd 0 [] []
 | gate (nd : Int) (h : inN n nd = true) (hk : kindN n nd = 5 ∨ kindN n nd = 6 ∨ kindN n nd = 7) : RightC n 8 nd 0 [] []
 | row (ks : List Blk) (h : 1 < ks.length) (h3 : ∀ b ∈ ks,b.kd ≠ 3) : RightC n 3 0 0 ks []
 | split (k nd kd : Int) (ks : List Blk) (hk : (k = 4 /\ kd = 6) ∨ (k = 5 /\ kd = 5) ∨ (k = 6 /\ kd = 7)) (hs : splitN n nd kd ks.length = true) : RightC n k nd 0 ks []
 | loop (nd a : Int) (ks : List Blk) (ha : a = 0 ∨ a = 1) (h2 : ks.length = 2) (hs : splitN n nd 5 ks.length = true) : RightC n 7 nd a ks []
 | web (ks : List Blk) (ls : List Lk) (h : 0 < ks.length) (hl : linkedW ks.length n.flows.length ls = true) : RightC n 9 0 0 ks ls
theorem right_c {n : Nt} {k nd a : Int} {ks : List Blk} {ls : List Lk} (h : rightB n k nd a ks ls = true) : RightC n k nd a ks ls := by
 unfold rightB at h
 split at h
 ·cases h
 rename_i hb
 simp only [headBad,Bool.or_eq_true,Bool.and_eq_true,bne_iff_ne,ne_eq,dqE,not_or,not_and,Decidable.not_not] at hb
 obtain ⟨hb1,hb2⟩ := hb
 have ha : k ≠ 7 -> a = 0 := fun h7 => Classical.byContradiction fun h0 => h7 (hb1 h0).1
 have hl : k ≠ 9 -> ls = [] := fun h9 => List.eq_nil_of_length_eq_zero (by
  rcases Nat.eq_zero_or_pos ls.length with h0 | h0
  ·exact h0
  ·exact absurd (hb2 (by omega)) h9)
 have hn0 : ∀ {l : List Blk},((l.length : Int) == 0) = true -> l = [] := fun h => List.eq_nil_of_length_eq_zero (by simpa using h)
 split at h
 ·rename_i hk
  obtain rfl := ha (by omega)
  obtain rfl := hl (by omega)
  simp only [Bool.and_eq_true,beq_iff_eq] at h
  obtain rfl := h.1
  obtain rfl : ks = [] := List.eq_nil_of_length_eq_zero (by omega)
  exact .empty k hk
 split at h
 ·rename_i hk; subst hk
  obtain rfl := ha (by omega)
  obtain rfl := hl (by omega)
  simp only [Bool.and_eq_true] at h
  obtain rfl := hn0 h.2.1
  have h3 := h.2.2
  simp only [List.any_cons,List.any_nil,Bool.or_false,Bool.or_eq_true,beq_iff_eq] at h3
  exact .leaf nd h.1 h3
 split at h
 ·rename_i hk; subst hk
  obtain rfl := ha (by omega)
  obtain rfl := hl (by omega)
  simp only [Bool.and_eq_true] at h
  obtain rfl := hn0 h.2.1
  have h3 := h.2.2
  simp only [List.any_cons,List.any_nil,Bool.or_false,Bool.or_eq_true,beq_iff_eq] at h3
  exact .gate nd h.1 h3
 split at h
 ·rename_i hk; subst hk
  obtain rfl := ha (by omega)
  obtain rfl := hl (by omega)
  simp only [Bool.and_eq_true,beq_iff_eq,dqE,Bool.not_eq_true',List.any_eq_false] at h
  obtain rfl := h.1
  exact .row ks (by omega) fun b hb => by have := h.2.2 b hb; rw [kB_kd] at this; exact this
 split at h
 ·rename_i hk; subst hk
  obtain rfl := ha (by omega)
  obtain rfl := hl (by omega)
  exact .split 4 nd 6 ks (.inl ⟨rfl,rfl⟩) h
 split at h
 ·rename_i hk; subst hk
  obtain rfl := ha (by omega)
  obtain rfl := hl (by omega)
  exact .split 5 nd 5 ks (.inr (.inl ⟨rfl,rfl⟩)) h
 split at h
 ·rename_i hk; subst hk
  obtain rfl := ha (by omega)
  obtain rfl := hl (by omega)
  exact .split 6 nd 7 ks (.inr (.inr ⟨rfl,rfl⟩)) h
 split at h
 ·rename_i hk; subst hk
  obtain rfl := hl (by omega)
  simp only [Bool.and_eq_true,beq_iff_eq] at h
  refine .loop nd a ks ?_ (by omega) h.2
  by_cases h0 : a = 0
  ·exact .inl h0
  ·exact .inr (hb1 h0).2
 split at h
 ·rename_i hk; subst hk
  obtain rfl := ha (by omega)
  simp only [Bool.and_eq_true,beq_iff_eq,dqE] at h
  obtain rfl := h.1
  exact .web ks ls (by omega) h.2.2
 ·cases h
theorem qkind_ev (h : IsN n N F) {q : Int} (hq : inN n q = true) (bx : List Box) : ev cfg (.call 155 [Nq N F,I q] bx) = Rq (I (kindN n q)) := by
 obtain ⟨oN,oF⟩ := isN_one h
 obtain ⟨p,rfl,hp⟩ := inN_nat hq
 obtain ⟨nr,fr,hN,hnr,_⟩ := h
 obtain ⟨r,hr,_,_,op,m,K,rfl,_⟩ := hnr.get hp
 rw [kind_at hp]
 exact es (qkind_f hN oF hr)
theorem ok_in0 (h : OkN n) : inN n 0 = true := by
 have h1 := h.2.2.2.2.2.1
 rw [inN,Bool.and_eq_true,dqE,dqE]
 refine ⟨by omega,?_⟩
 rcases Nat.eq_zero_or_pos n.nodes.length with h0 | h0
 ·have he : n.nodes = [] := List.eq_nil_of_length_eq_zero h0
  rw [startN,he,firstK] at h1
  exact absurd h1 (by decide)
 ·omega
theorem qsplit_ev (h : IsN n N F) (hsz : n.flows.length <= 1000) {q kd : Int} {m : Nat} (hs : splitN n q kd m = true) (bx : List Box) : ev cfg (.call 156 [Nq N F,I q,I kd,I m] bx) = Rq (B true) := by
 obtain ⟨oN,oF⟩ := isN_one h
 simp only [splitN,Bool.and_eq_true,beq_iff_eq,dqE] at hs
 obtain ⟨h1,h2,h3,h4⟩ := hs
 refine es (qsplit_f oN oF (fun bx => qkind_ev h h1 bx) (fun bx => routs_ev h (by omega) q bx) (mkD_is 1 _) (by rw [h2]; simp) (by rw [natR_len]; simpa using h4) (by simpa using by omega))
theorem qlinks_ev (h : IsN n N F) {ks : List Blk} {ls : List Lk} {rows : List (List D)} {K L : D} (hK : IsS 5 rows K) (hkl : rows.length = ks.length) (hL : IsS 3 (ls.map lnkD) L) (hlk : linkedW ks.length n.flows.length ls = true) (bx : List Box) :
  ev cfg (.call 157 [Nq N F,Wq 9 0 0 K L] bx) = Rq (B true) := by
 obtain ⟨oN,oF⟩ := isN_one h
 have oK : Oq K := by obtain ⟨_,_,_,h⟩ := hK; exact h
 have oL : Oq L := by obtain ⟨_,_,_,h⟩ := hL; exact h
 obtain ⟨nr,fr,hN,hnr,_,hF,hfr,_⟩ := h
 have hfl := hfr.1
 have hlen : (ls.map lnkD).length = ls.length := by simp
 simp only [linkedW,Bool.and_eq_true,Bool.not_eq_true',List.any_eq_false,beq_iff_eq,dqE] at hlk
 obtain ⟨hbad,c1,c2,c3⟩ := hlk
 have loop : ∀ (xs : List Lk) (i : Nat) (az zz2 : Int),ls.drop i = xs -> 0 <= az -> az <= i -> 0 <= zz2 -> zz2 <= i →
   ev cfg (.loop 157 4 (qs bx (sh157_4 (P0 bx) (P1 bx) (I az) (I zz2) (.dat L) (I (ls.map lnkD).length) (I i)) [Nb N F,Wx 9 0 0 K L])) =
    some (.loop (.exit 0) (qs bx (se157_4 (P1 bx) .dead (I (az + (cntW (·.1) xs : Nat))) (I (zz2 + (cntW (·.2.1) xs : Nat)))) [Nb N F,Wx 9 0 0 K L])) := by
  intro xs
  induction xs with
  | nil =>
   intro i az zz2 hd _ _ _ _
   have := es (qlinks_end (bx := bx) (k := 9) (nd := 0) (a := 0) (az := az) (zz2 := zz2) oN oF oK oL (m := (ls.map lnkD).length) (i := i) (by rw [hlen]; exact drop_nil hd))
   rw [this]
   simp [cntW]
  | cons x xs ih =>
   intro i az zz2 hd h1 h2 h3 h4
   obtain ⟨hget,hd',hlt⟩ := drop_cons hd
   have hb := hbad x (mog hget)
   simp only [badX,badLk,Bool.or_eq_true,dqE,not_or] at hb
   obtain ⟨e1,e2,e3,e4,e5,e6⟩ := hb
   have hr := qlinks_r (bx := bx) (k := 9) (nd := 0) (a := 0) (az := az) (zz2 := zz2) oN hF hK hL (lnk_get hget) (by rw [hlen]; exact hlt) (by rw [hlen]; omega) (by simpa using e1) (by simpa using e3) (by simpa [hkl] using e2) (by simpa [hkl] using e4) (by simpa using e5) (by simpa [hfl] using e6) h1 (by omega) h3 (by omega)
   have h5 := ih (i + 1) (if (x.1 == -1) = true then az + 1 else az) (if (x.2.1 == -1) = true then zz2 + 1 else zz2) hd' (by split <;> omega) (by split <;> omega) (by split <;> omega) (by split <;> omega)
   refine (es (hr.trans h5)).trans ?_
   have g1 : (if (x.1 == -1) = true then az + 1 else az) + (cntW (·.1) xs : Nat) = az + (cntW (·.1) (x :: xs) : Nat) := by
    rw [cnt_cons]
    by_cases hx : x.1 = -1
    ·rw [if_pos (by simpa using hx),if_pos (by omega)]; omega
    ·rw [if_neg (by simpa using hx),if_neg (by omega)]; omega
   have g2 : (if (x.2.1 == -1) = true then zz2 + 1 else zz2) + (cntW (·.2.1) xs : Nat) = zz2 + (cntW (·.2.1) (x :: xs) : Nat) := by
    rw [cnt_cons]
    by_cases hx : x.2.1 = -1
    ·rw [if_pos (by simpa using hx),if_pos (by omega)]; omega
    ·rw [if_neg (by simpa using hx),if_neg (by omega)]; omega
   rw [g1,g2]
 have hlp := loop ls 0 0 0 rfl (by omega) (by omega) (by omega) (by omega)
 rw [Int.zero_add,Int.zero_add,c1,c2] at hlp
 exact es (qlinks_f oN oF oK hL hlp (by rw [hlen]; simpa using c3))
theorem qone_ev (h : IsN n N F) (hok : OkN n) (hsz : n.flows.length <= 1000) {k nd a : Int} {ks : List Blk} {ls : List Lk} (hr : RightC n k nd a ks ls) (hk : k ≠ 10) {K L : D} (hB : IsB (.mk k nd a ks ls) k nd a K L) (bx : List Box) :
  ev cfg (.call 131 [Nq N F,Wq k nd a K L] bx) = Rq (B true) := by
 obtain ⟨oN,oF⟩ := isN_one h
 obtain ⟨oK,oL⟩ := isB_one hB
 rw [IsB] at hB
 obtain ⟨_,_,_,_,_,_,rows,hK,hks,hmax,hL,_,_⟩ := hB
 have hkl := isBs_len hks
 have hnil : ks = [] -> rows = [] := fun e => List.eq_nil_of_length_eq_zero (by rw [hkl,e]; rfl)
 have h0 := fun bx : List Box => qkind_ev h (ok_in0 hok) bx
 have hsp : ∀ {q kd : Int},splitN n q kd ks.length = true -> Cq 156 [Nq N F,I q,I kd,I rows.length] (B true) := fun hs bx => by rw [hkl]; exact qsplit_ev h hsz hs bx
 cases hr with
 | empty _ hk1 =>
  obtain rfl : k = 1 := by omega
  rw [hnil rfl] at hK
  exact es (qone_1 oN oF hK hL h0)
 | leaf _ h1 h2 =>
  rw [hnil rfl] at hK
  exact es (qone_2 oN oF hK hL (fun bx => qkind_ev h h1 bx) h2)
 | gate _ h1 h2 =>
  rw [hnil rfl] at hK
  exact es (qone_8 oN oF hK hL (fun bx => qkind_ev h h1 bx) h2)
 | row _ h1 h3 =>
  have loop : ∀ (bs : List Blk) (rs : List (List D)) (i : Nat),rows.drop i = rs -> IsB.IsBs bs rs -> (∀ b ∈ bs,b.kd ≠ 3) →
    ev cfg (.loop 131 13 (qs bx (sh131_13 (P1 bx) (I rows.length) (.dat K) (I rows.length) (I i)) [Nb N F,Wx 3 0 0 K L])) =
     some (.loop (.exit 1) (qs bx (se131_13 (P1 bx) .dead (I rows.length)) [Nb N F,Wx 3 0 0 K L])) := by
   intro bs
   induction bs with
   | nil =>
    intro rs i hd hbs _
    rw [IsB.IsBs] at hbs
    subst hbs
    exact es (qone_3e oN oF oK oL (drop_nil hd))
   | cons b bs ih =>
    intro rs i hd hbs hb3
    rw [IsB.IsBs] at hbs
    obtain ⟨k2,n2,a2,K2,L2,rest,rfl,hB2,hrest⟩ := hbs
    obtain ⟨hget,hd',hlt⟩ := drop_cons hd
    obtain ⟨o1,o2⟩ := isB_one hB2
    have hk2 : k2 = b.kd := by cases b; rw [IsB] at hB2; exact hB2.1
    exact es ((qone_3r oN oF hK oL hget o1 o2 hlt (by omega) (by rw [hk2]; simpa using hb3 b mcs)).trans (ih rest (i + 1) hd' hrest fun c hc => hb3 c (mcm _ hc)))
  exact es (qone_3 oN oF hK hL h0 (loop ks rows 0 rfl hks h3) (by simpa using by omega))
 | split _ _ kd _ h1 hs =>
  have hin : inN n nd = true := by simp only [splitN,Bool.and_eq_true] at hs; exact hs.1
  exact es (qone_s oN oF hK hL (fun bx => qkind_ev h hin bx) (hsp hs) h1)
 | loop _ _ _ h1 h2 hs =>
  have hin : inN n nd = true := by simp only [splitN,Bool.and_eq_true] at hs; exact hs.1
  exact es (qone_7 oN oF hK hL (fun bx => qkind_ev h hin bx) (hsp hs) h1 (by rw [hkl,h2]; rfl))
 | web _ _ h1 hl =>
  exact es (qone_9 oN oF hK oL h0 (fun bx => qlinks_ev h hK hkl hL hl bx) (by simpa using by omega))
theorem qnest_k {n : Nt} : ∀ {b : Blk},nestB n b = true -> kB b <= 10
 | .mk k nd a ks ls,h => by
  rw [nestB,Bool.and_eq_true] at h
  have h := h.1
  show k <= 10
  unfold rightB at h
  split at h
  ·cases h
  split at h
  ·omega
  repeat' split at h
  all_goals first | omega | cases h
theorem qform_ev (h : IsN n N F) (hok : OkN n) (hsz : n.flows.length <= 1000) : ∀ (b : Blk) {k nd a : Int} {K L : D},nestB n b = true -> b.kd ≠ 10 -> IsB b k nd a K L -> ∀ bx : List Box,
  ev cfg (.call 87 [Nq N F,Wq k nd a K L] bx) = Rq (B true)
 | .mk k0 nd0 a0 ks ls,k,nd,a,K,L,hn,hk,hB,bx => by
  obtain ⟨oN,oF⟩ := isN_one h
  obtain ⟨oK,oL⟩ := isB_one hB
  obtain ⟨hr,hks⟩ := nest_mk.1 hn
  have hB0 := hB
  rw [IsB] at hB
  obtain ⟨rfl,rfl,rfl,_,_,_,rows,hK,hbs,hmax,hL,_,_⟩ := hB
  have hlen := isBs_len hbs
  exact es (qform_f oN oF hK oL (fun bx => qone_ev h hok hsz (right_c hr) hk hB0 bx) (loop ks (i := 0) hK oL rfl hbs (by omega) hks bx))
where
 loop : ∀ (bs : List Blk) {rows rs : List (List D)} {K L : D} {k nd a : Int} {i : Nat},IsS 5 rows K -> Oq L -> rows.drop i = rs -> IsB.IsBs bs rs -> rows.length < 9223372036854775808 -> (∀ b ∈ bs,b.kd ≠ 9 /\ b.kd ≠ 10 /\ (b.kd = 8 -> k = 9) /\ nestB n b = true) -> ∀ bx : List Box,
  ev cfg (.loop 87 4 (qs bx (sh87_4 (P0 bx) (P1 bx) (.dat K) (I rows.length) (I i)) [Nb N F,Wx k nd a K L])) =
   some (.loop (.exit 0) (qs bx (se87_4 .dead) [Nb N F,Wx k nd a K L]))
 | [],rows,rs,K,L,k,nd,a,i,hK,oL,hd,hbs,hmax,hks,bx => by
  obtain ⟨oN,oF⟩ := isN_one h
  have oK : Oq K := by obtain ⟨_,_,_,h⟩ := hK; exact h
  rw [IsB.IsBs] at hbs
  subst hbs
  exact es (qform_end oN oF oK oL (drop_nil hd))
 | b :: bs,rows,rs,K,L,k,nd,a,i,hK,oL,hd,hbs,hmax,hks,bx => by
  obtain ⟨oN,oF⟩ := isN_one h
  rw [IsB.IsBs] at hbs
  obtain ⟨k2,n2,a2,K2,L2,rest,rfl,hB2,hrest⟩ := hbs
  obtain ⟨hget,hd',hlt⟩ := drop_cons hd
  obtain ⟨o1,o2⟩ := isB_one hB2
  obtain ⟨c9,c10,c8,hnb⟩ := hks b mcs
  have hk2 : k2 = b.kd := by cases b; rw [IsB] at hB2; exact hB2.1
  have hkr : b.kd <= 10 := by have := qnest_k hnb; rw [kB_kd] at this; exact this
  have h2 := loop bs (k := k) (nd := nd) (a := a) (i := i + 1) hK oL hd' hrest hmax (fun c hc => hks c (mcm _ hc)) bx
  refine es ((qform_r oN oF hK oL hget o1 o2 hlt hmax ?_ ?_ fun bx => qform_ev h hok hsz b hnb c10 hB2 bx).trans h2)
  ·rw [hk2]; simp; omega
  ·rw [hk2,Bool.and_eq_false_iff]
   by_cases h8 : b.kd = 8
   ·exact .inr (by rw [c8 h8]; rfl)
   ·exact .inl (by simpa using h8)
theorem qcheck_ev (h : IsN n N F) (hok : OkN n) (hfl : n.flows.length <= 1000) (hnd : n.nodes.length <= 1000) (hz : ∀ t ∈ termsN n,sizeT t <= 1000000) (b : Blk) {k nd a : Int} {K L : D} (hB : IsB b k nd a K L) (hn : nestB n b = true) (h10 : b.kd ≠ 10) (hlg : longB b = false) :
  ∃ e : Int,(e = 0 ∨ e = 8) /\ Cq 53 [Nq N F,Wq k nd a K L] (I e) := by
 obtain ⟨oN,oF⟩ := isN_one h
 obtain ⟨oK,oL⟩ := isB_one hB
 obtain ⟨r,q,hr,h5⟩ := rncheck_ev h hfl hnd hz
 obtain rfl := hr.2 hok
 simp only [longB,Bool.or_eq_false_iff] at hlg
 have hsz : sizeB b <= 96 := by simpa using hlg.2
 have ht := fun (i : Nat) (bx : List Box) => times_ev h hfl (i : Int) b hB (by omega) bx
 have hh := h
 obtain ⟨nr,fr,hN,hnr,_⟩ := hh
 have hnl : nr.length = n.nodes.length := hnr.1
 have loop : ∀ (m i : Nat),i + m = nr.length -> ∃ v : Bool,∀ bx : List Box,
   ev cfg (.loop 53 8 (qs bx (sh53_8 (P0 bx) (P1 bx) (I nr.length) (I i)) [Nb N F,Wx k nd a K L])) =
    (if v = true then some (.loop .ret (qs bx (se53_8 (I 8)) [Nb N F,Wx k nd a K L])) else some (.loop (.exit 0) (qs bx (se53_8 .dead) [Nb N F,Wx k nd a K L]))) := by
  intro m
  induction m with
  | zero =>
   intro i hi
   exact ⟨false,fun bx => by rw [if_neg (by decide)]; exact es (qcheck_end oN oF oK oL (by omega))⟩
  | succ m ih =>
   intro i hi
   cases c : decide ((((nodesB n b).count (i : Int) : Nat) : Int) > 1) with
   | true => exact ⟨true,fun bx => by rw [if_pos rfl]; exact es (qcheck_8 (m := nr.length) oN oF oK oL (by omega) (ht i) c)⟩
   | false =>
    obtain ⟨v,hv⟩ := ih (i + 1) (by omega)
    refine ⟨v,fun bx => ?_⟩
    have h9 := (qcheck_r (bx := bx) (m := nr.length) oN oF oK oL (by omega) (by omega) (ht i) c).trans (hv bx)
    cases v with
    | true => rw [if_pos rfl] at h9 ⊢; exact es h9
    | false => rw [if_neg (by decide)] at h9 ⊢; exact es h9
 obtain ⟨v,hv⟩ := loop nr.length 0 (by omega)
 refine ⟨if v = true then 8 else 0,by cases v <;> simp,fun bx => es (qcheck_f hN oF oK oL h5 (fun bx => depth_ev b hB (by omega) bx) (fun bx => rsize_ev b hB (by omega) bx) hlg.1 hlg.2 (fun bx => qform_ev h hok hfl b hn h10 hB bx) (hv bx))⟩
abbrev wK (w : Wb) : D := mkD 5 (cB.cBs w.ks)
abbrev wL (w : Wb) : D := mkD 3 (w.ls.map lnkD)
theorem kid_row {w : Wb} {i : Nat} {b : Blk} (hb : w.ks[i]? = some b) : ∃ a K L,(cB.cBs w.ks)[i]? = some [dI b.kd,dI b.nd,dI a,K,L] /\ Oq K /\ Oq L := by
 have h := cBs_get hb
 obtain ⟨k,nd,a,ks,ls⟩ := b
 exact ⟨a,_,_,h,mkD_one 5 _,mkD_one 3 _⟩
theorem isBs_get : ∀ {bs : List Blk} {rows : List (List D)} {i : Nat} {b : Blk},IsB.IsBs bs rows -> bs[i]? = some b -> ∃ a K L,rows[i]? = some [dI b.kd,dI b.nd,dI a,K,L] /\ Oq K /\ Oq L
 | [],_,_,_,_,h => by simp at h
 | c :: bs,rows,i,b,h,hb => by
  rw [IsB.IsBs] at h
  obtain ⟨k,nd,a,K,L,rest,rfl,h1,h2⟩ := h
  cases i with
  | zero =>
   obtain rfl : c = b := by simpa using hb
   obtain ⟨k',nd',a',ks,ls⟩ := c
   have := isB_one h1
   rw [IsB] at h1
   obtain ⟨rfl,rfl,rfl,_⟩ := h1
   exact ⟨_,K,L,rfl,this⟩
  | succ i =>
   obtain ⟨a2,K2,L2,h3⟩ := isBs_get (i := i) h2 (by simpa using hb)
   exact ⟨a2,K2,L2,by simpa using h3⟩
theorem ins_ne {w : Wb} (hw : InvW n w) (hG : Gates n) {i : Nat} {b : Blk} (hb : w.ks[i]? = some b) : insW w.ls i ≠ [] /\ outsW w.ls i ≠ [] := by
 have hk := hw.kid i b hb
 by_cases h8 : b.kd = 8
 ·obtain ⟨g1,g2,g3,g4⟩ := hk.gate h8
  have := hG.2 b.nd g1.1 g1.2 g2
  constructor
  ·intro e; rw [e] at g3; simp at g3; omega
  ·intro e; rw [e] at g4; simp at g4; omega
 ·have := hk.one h8
  constructor
  ·intro e; rw [e] at this; simp at this
  ·intro e; rw [e] at this; simp at this
theorem youts_ev {w : Wb} {K L : D} (oK : Oq K) (hL : IsS 3 (w.ls.map lnkD) L) (hlen : w.ls.length <= 1000) (q : Int) (bx : List Box) : ev cfg (.call 57 [Wq 9 0 0 K L,I q] bx) = Rq (mkS 1 (nR (outsW w.ls q))) := by
 have oL : Oq L := by obtain ⟨_,_,_,h⟩ := hL; exact h
 have hll : (w.ls.map lnkD).length = w.ls.length := List.length_map ..
 refine es (xouts_f oK hL fun c hc => ?_)
 have loop : ∀ (xs : List Lk) (i : Nat) (acc : List Nat),w.ls.drop i = xs -> acc.length <= i -> ev cfg (.loop 57 3 (qs bx (sh57_3 (I q) (mkS 1 (nR acc)) (.dat L) (I (w.ls.map lnkD).length) (I i)) [c])) = some (.loop (.exit 0) (qs bx (se57_3 (mkS 1 (nR (acc ++ idxs (fun l => l.1 == q) i xs)))) [c])) := by
  intro xs
  induction xs with
  | nil =>
   intro i acc hd _
   rw [idxs,List.append_nil]
   exact es (xouts_end oL hc (by rw [hll]; exact drop_nil hd))
  | cons x xs ih =>
   intro i acc hd ha
   obtain ⟨hget,hd',hlt⟩ := drop_cons hd
   rw [idxs]
   cases acc with
   | nil =>
    have hr := xouts_round0 (q := q) hL hc (lnk_get hget) (by rw [hll]; exact hlt) (by rw [hll]; omega)
    refine es (hr.trans ?_)
    cases hp : (x.1 == q) with
    | true =>
     rw [if_pos rfl,if_pos rfl]
     exact ih (i + 1) [i] hd' (by simp)
    | false =>
     rw [if_neg fnt,if_neg fnt]
     exact ih (i + 1) [] hd' (by simp)
   | cons a acc =>
    have hr := xouts_round1 (q := q) (rs := nR (a :: acc)) hL hc (lnk_get hget) (by rw [hll]; exact hlt) (by rw [hll]; omega) (by rw [nR_len]; simp at ha ⊢; omega)
    refine es (hr.trans ?_)
    cases hp : (x.1 == q) with
    | true =>
     rw [if_pos rfl,if_pos rfl]
     have := ih (i + 1) (a :: acc ++ [i]) hd' (by simp at ha ⊢; omega)
     rw [nR_app1,mkS_ne (by simp)] at this
     rw [this,List.append_assoc]; rfl
    | false =>
     rw [if_neg fnt,if_neg fnt]
     exact ih (i + 1) (a :: acc) hd' (by omega)
 exact loop w.ls 0 [] rfl (Nat.le_refl _)
theorem yins_ev {w : Wb} {K L : D} (oK : Oq K) (hL : IsS 3 (w.ls.map lnkD) L) (hlen : w.ls.length <= 1000) (q : Int) (bx : List Box) : ev cfg (.call 56 [Wq 9 0 0 K L,I q] bx) = Rq (mkS 1 (nR (insW w.ls q))) := by
 have oL : Oq L := by obtain ⟨_,_,_,h⟩ := hL; exact h
 have hll : (w.ls.map lnkD).length = w.ls.length := List.length_map ..
 refine es (xins_f oK hL fun c hc => ?_)
 have loop : ∀ (xs : List Lk) (i : Nat) (acc : List Nat),w.ls.drop i = xs -> acc.length <= i -> ev cfg (.loop 56 3 (qs bx (sh56_3 (I q) (mkS 1 (nR acc)) (.dat L) (I (w.ls.map lnkD).length) (I i)) [c])) = some (.loop (.exit 0) (qs bx (se56_3 (mkS 1 (nR (acc ++ idxs (fun l => l.2.1 == q) i xs)))) [c])) := by
  intro xs
  induction xs with
  | nil =>
   intro i acc hd _
   rw [idxs,List.append_nil]
   exact es (xins_end oL hc (by rw [hll]; exact drop_nil hd))
  | cons x xs ih =>
   intro i acc hd ha
   obtain ⟨hget,hd',hlt⟩ := drop_cons hd
   rw [idxs]
   cases acc with
   | nil =>
    have hr := xins_round0 (q := q) hL hc (lnk_get hget) (by rw [hll]; exact hlt) (by rw [hll]; omega)
    refine es (hr.trans ?_)
    cases hp : (x.2.1 == q) with
    | true =>
     rw [if_pos rfl,if_pos rfl]
     exact ih (i + 1) [i] hd' (by simp)
    | false =>
     rw [if_neg fnt,if_neg fnt]
     exact ih (i + 1) [] hd' (by simp)
   | cons a acc =>
    have hr := xins_round1 (q := q) (rs := nR (a :: acc)) hL hc (lnk_get hget) (by rw [hll]; exact hlt) (by rw [hll]; omega) (by rw [nR_len]; simp at ha ⊢; omega)
    refine es (hr.trans ?_)
    cases hp : (x.2.1 == q) with
    | true =>
     rw [if_pos rfl,if_pos rfl]
     have := ih (i + 1) (a :: acc ++ [i]) hd' (by simp at ha ⊢; omega)
     rw [nR_app1,mkS_ne (by simp)] at this
     rw [this,List.append_assoc]; rfl
    | false =>
     rw [if_neg fnt,if_neg fnt]
     exact ih (i + 1) (a :: acc) hd' (by omega)
 exact loop w.ls 0 [] rfl (Nat.le_refl _)
theorem mkS_nR {l : List Nat} (h : l ≠ []) : mkS 1 (nR l) = .own true 1 (nR l) := mkS_ne (by
 intro e
 have := congrArg List.length e
 rw [nR_len] at this
 exact h (List.eq_nil_of_length_eq_zero (by simpa using this)))
theorem qwrong_ev (h : IsN n N F) (hok : OkN n) (hfl : n.flows.length <= 1000) (hnd : n.nodes.length <= 1000) (hz : ∀ t ∈ termsN n,sizeT t <= 1000000) {w : Wb} (hG : Gates n) (hw : InvL n w) (hk : w.ks ≠ []) {K L : D} (hwis : IsB (.mk 9 0 0 w.ks w.ls) 9 0 0 K L) (bx : List Box) :
  ev cfg (.call 24 [Nq N F,Wq 9 0 0 K L] bx) = Rq (I 0) := by
 obtain ⟨oN,oF⟩ := isN_one h
 obtain ⟨r,q,hr,h5⟩ := rncheck_ev h hfl hnd hz
 obtain rfl := hr.2 hok
 obtain ⟨e,he,hc⟩ := qcheck_ev h hok hfl hnd hz _ hwis (web_nest hw hk) (by show (9 : Int) ≠ 10; decide) (web_long hw)
 have hlen : w.ls.length <= 1000 := by have := hw.inv.lens; omega
 obtain ⟨oK,oL⟩ := isB_one hwis
 have hwis2 := hwis
 rw [IsB] at hwis2
 obtain ⟨_,_,_,_,_,_,rows,hK,hks,_,hL,_,_⟩ := hwis2
 have hkl : rows.length = w.ks.length := isBs_len hks
 have loop : ∀ (m i : Nat),i + m = w.ks.length →
   ev cfg (.loop 24 7 (qs bx (sh24_7 (P0 bx) (P1 bx) (.dat K) (I rows.length) (I i)) [Nb N F,Wx 9 0 0 K L])) =
    some (.loop (.exit 0) (qs bx (se24_7 .dead) [Nb N F,Wx 9 0 0 K L])) := by
  intro m
  induction m with
  | zero => intro i hi; exact es (qwrong_end oN oF oK oL (by omega))
  | succ m ih =>
   intro i hi
   have hb : w.ks[i]? = some w.ks[i] := gge (by omega)
   obtain ⟨a,K2,L2,hrow,o1,o2⟩ := isBs_get hks hb
   obtain ⟨n1,n2⟩ := ins_ne hw.inv hG hb
   have hko := hw.inv.kid i _ hb
   have h2 := ih (i + 1) (by omega)
   have hi1 := fun bx : List Box => yins_ev (w := w) oK hL hlen (i : Int) bx
   have ho1 := fun bx : List Box => youts_ev (w := w) oK hL hlen (i : Int) bx
   rw [mkS_nR n1] at hi1
   rw [mkS_nR n2] at ho1
   by_cases h8 : (w.ks[i]).kd = 8
   ·obtain ⟨g1,g2,g3,g4⟩ := hko.gate h8
    rw [h8] at hrow
    exact es ((qwrong_g oN oF hK oL hrow o1 o2 (by omega) (by have := hw.inv.lens; omega) (fun bx => rins_ev h (by omega) _ bx) (mkD_is 1 _) (fun bx => routs_ev h (by omega) _ bx) (mkD_is 1 _) hi1 ho1 (by rw [nR_len,natR_len,g3]; simp) (by rw [nR_len,natR_len,g4]; simp)).trans h2)
   ·obtain ⟨g1,g2⟩ := hko.one h8
    exact es ((qwrong_l oN oF hK oL hrow o1 o2 (by omega) (by have := hw.inv.lens; omega) (by simpa using h8) hi1 ho1 (by rw [nR_len,g1]; simp) (by rw [nR_len,g2]; simp)).trans h2)
 exact es (qwrong_f oN oF hK oL h5 hc he (loop w.ks.length 0 (by omega)))
theorem fright_ev (h : IsN n N F) (hfl : n.flows.length <= 1000) {w : Wb} (hG : Gates n) (hw : InvW n w) {bx : List Box} {l : Nat} (hB : FB bx l N F w) :
  ev cfg (.call 50 [.ptr l 0] bx) = Rq (B true) := by
 have hlen : w.ls.length <= 1000 := by have := hw.lens; omega
 have hkl : (cB.cBs w.ks).length = w.ks.length := cBs_len _
 have loop : ∀ (m i : Nat),i + m = w.ks.length →
   ev cfg (.loop 50 2 (q0 bx (sh50_2 (.ptr l 0) (.alias (.cell l 2)) (I (cB.cBs w.ks).length) (I i)))) = some (.loop (.exit 0) (q0 bx (se50_2 .dead))) := by
  intro m
  induction m with
  | zero => intro i hi; exact es (fright_end hB.lt (by omega))
  | succ m ih =>
   intro i hi
   have hb : w.ks[i]? = some w.ks[i] := gge (by omega)
   obtain ⟨a,K2,L2,hrow,o1,o2⟩ := kid_row hb
   obtain ⟨n1,n2⟩ := ins_ne hw hG hb
   have hko := hw.kid i _ hb
   have h2 := ih (i + 1) (by omega)
   have hi1 := fun r : Box => insW_ev (hB.ex [r]).lt (hB.ex [r]).get hlen (i : Int)
   have ho1 := fun r : Box => outsW_ev (hB.ex [r]).lt (hB.ex [r]).get hlen (i : Int)
   rw [mkS_nR n1] at hi1
   rw [mkS_nR n2] at ho1
   by_cases h8 : (w.ks[i]).kd = 8
   ·obtain ⟨g1,g2,g3,g4⟩ := hko.gate h8
    rw [h8] at hrow
    exact es ((fright_g hB.lt hB.get hB.n hB.f hrow o1 o2 (by omega) (by have := hw.lens; omega) (fun r => ins_ev h (by omega) _ _) (mkD_is 1 _) (fun r => outs_ev h (by omega) _ _) (mkD_is 1 _) hi1 ho1 (by rw [nR_len,natR_len,g3]; simp) (by rw [nR_len,natR_len,g4]; simp)).trans h2)
   ·obtain ⟨g1,g2⟩ := hko.one h8
    exact es ((fright_l hB.lt hB.get hrow o1 o2 (by omega) (by have := hw.lens; omega) (by simpa using h8) hi1 ho1 (by rw [nR_len,g1]; simp) (by rw [nR_len,g2]; simp)).trans h2)
 exact es (fright_f hB.lt hB.get (loop w.ks.length 0 (by omega)))
theorem web_evc {w : Wb} {bx : List Box} {l : Nat} {N F : D} (hw : InvW n w) (hG : Gates n) (hk : w.ks ≠ []) (hB : FB bx l N F w) :
  ev cfg (.call 30 [.ptr l 0] bx) = some (.ret (Wq 9 0 0 (wK w) (wL w)) (some ⟨bx.set l [.dat N,.dat F,.own false 5 (cB.cBs w.ks),.own false 3 (w.ls.map lnkD)],l,false⟩)) := by
 have hls := web_ls hw hG hk
 obtain ⟨b,bs,hb⟩ := List.exists_cons_of_ne_nil hk
 obtain ⟨x,xs,hx⟩ := List.exists_cons_of_ne_nil hls
 have hget := hB.get
 rw [wK,wL]
 rw [hb,hx] at hget ⊢
 exact es (fweb_f hB.lt hget)
theorem okB_okL : ∀ b,okB b -> okL b
 | .mk k n a ks ls,h => by
  rw [okB] at h
  rw [okL]
  exact ⟨by omega,go ks h.2.2⟩
where
 go : ∀ bs,okB.go bs -> okL.go bs
 | [],_ => by rw [okL.go]; trivial
 | b :: bs,h => by
  rw [okB.go] at h
  rw [okL.go]
  exact ⟨okB_okL b h.1,go bs h.2⟩
theorem step_web_ev (h : IsN n N F) (hok : OkN n) (hfl : n.flows.length <= 1000) (hnd : n.nodes.length <= 1000) (hz : ∀ t ∈ termsN n,sizeT t <= 1000000) {w : Wb} (hG : Gates n) (hw : InvL n w) (hk : w.ks ≠ []) (bx : List Box) :
  ev cfg (.call 22 [Nq N F,Wq 9 0 0 (wK w) (wL w)] bx) = Rq (.tup [Wq 9 0 0 (wK (nextW n w).1) (wL (nextW n w).1),I (nextW n w).2,I 0]) := by
 obtain ⟨oN,oF⟩ := isN_one h
 obtain ⟨r,q,hr,h5⟩ := ncheck_ev h hfl hnd hz
 obtain rfl := hr.2 hok
 have hwis : IsB (.mk 9 0 0 w.ks w.ls) 9 0 0 (wK w) (wL w) := web_is (n := n) (by have := hok.2.1; omega) hw.inv
 have hchk : chkB true n (.mk 9 0 0 w.ks w.ls) = 0 ∨ chkB true n (.mk 9 0 0 w.ks w.ls) = 8 := by
  rw [chkB,if_neg (by decide),web_long hw,if_neg (by decide),web_nest hw hk,if_neg (by decide)]
  split
  ·exact .inr rfl
  ·exact .inl rfl
 have hsz : sizeB (.mk 9 0 0 w.ks w.ls) <= 1000 := by
  have := web_long hw
  simp only [longB,Bool.or_eq_false_iff,decide_eq_false_iff_not] at this
  omega
 have hc := fun bx : List Box => bcheck_ev h hfl hnd hz true (by simp [hok]) _ hwis hsz (okB_okL _ (web_ok hw.inv)) bx
 have c1 := mkD_one 5 (cB.cBs w.ks)
 have c2 := mkD_one 3 (w.ls.map lnkD)
 have hls := web_ls hw.inv hG hk
 have hkl : (cB.cBs w.ks).length <= 1000 := by rw [cBs_len]; have := hw.inv.lens; omega
 have hll : (w.ls.map lnkD).length <= 1000 := by rw [List.length_map]; have := hw.inv.lens; omega
 have hfb := fbox_ne (N := N) (F := F) hk hls
 have ho : ∀ r0 r1 r2 : Box,ev cfg (.call 27 [Nq N F,Wq 9 0 0 (wK w) (wL w)] (bx ++ [r0,r1,r2])) =
   some (.ret (P5 bx) (some ⟨bx ++ [r0,r1,r2,Nb N F,Wx 9 0 0 (wK w) (wL w),[.dat N,.dat F,.own true 5 (cB.cBs w.ks),.own true 3 (w.ls.map lnkD)]],bx.length + 3,false⟩)) := fun r0 r1 r2 => by
  have e : (bx ++ [r0,r1,r2]).length = bx.length + 3 := by simp
  have h := es (fof_f (bx := bx ++ [r0,r1,r2]) (k := 9) (n := 0) (a := 0) oN oF c1 c2 (fun bx => clone5_ev hkl bx) fun bx => clone3_ev hll bx)
  have e2 : P2 (bx ++ [r0,r1,r2]) = P5 bx := congrArg (fun m => PV.ptr (m + 2) 0) e
  rw [e,e2,List.append_assoc,show [.dat N,.dat F,mkS 5 (cB.cBs w.ks),mkS 3 (w.ls.map lnkD)] = fbox N F w from rfl,hfb] at h
  exact h
 have hFB : ∀ r0 r1 r2 r3 r4 : Box,FB (bx ++ [r0,r1,r2,r3,r4,[.dat N,.dat F,.own true 5 (cB.cBs w.ks),.own true 3 (w.ls.map lnkD)]]) (bx.length + 5) N F w := fun r0 r1 r2 r3 r4 =>
  ⟨by simp,by rw [gar (by omega),show bx.length + 5 - bx.length = 5 by omega]; rfl,oN,oF⟩
 have hr := fun r0 r1 r2 r3 r4 : Box => fright_ev h hfl hG hw.inv (hFB r0 r1 r2 r3 r4)
 have hst := fun r0 r1 r2 r3 r4 : Box => step_ev hG h hw.inv (hFB r0 r1 r2 r3 r4)
 obtain ⟨hx,hx1,hx2,_,hx4⟩ := next_L hG hw
 by_cases h0 : (nextW n w).2 = 0
 ·rw [h0] at hst ⊢
  rw [hx2 h0]
  simp only [if_true] at hst
  have hwb := fun r0 r1 r2 r3 r4 : Box => web_evc hw.inv hG hk (hFB r0 r1 r2 r3 r4)
  refine es (fStep_stop (c3 := [.dat N,.dat F,.own false 5 (cB.cBs w.ks),.own false 3 (w.ls.map lnkD)]) oN oF c1 c2 (fun r0 r1 r2 => h5 _) ho hc hchk rfl hr hst (fun r0 r1 r2 r3 r4 => ?_) c1 c2)
  ·have := hwb r0 r1 r2 r3 r4
   rw [List.set_append_right _ _ (by omega),show bx.length + 5 - bx.length = 5 by omega] at this
   exact this
 ·have hxk := hx4 hk
  have hxl := web_ls hx.inv hG hxk
  have hfx := fbox_ne (N := N) (F := F) hxk hxl
  generalize (nextW n w).1 = x at *
  generalize (nextW n w).2 = kd at *
  simp only [h0,if_false] at hst
  have hFX : ∀ r0 r1 r2 r3 r4 : Box,FB (bx ++ [r0,r1,r2,r3,r4,[.dat N,.dat F,.own true 5 (cB.cBs x.ks),.own true 3 (x.ls.map lnkD)]]) (bx.length + 5) N F x := fun r0 r1 r2 r3 r4 =>
   ⟨by simp,by rw [gar (by omega),show bx.length + 5 - bx.length = 5 by omega]; rfl,oN,oF⟩
  have hwb := fun r0 r1 r2 r3 r4 : Box => web_evc hx.inv hG hxk (hFX r0 r1 r2 r3 r4)
  have d1 := mkD_one 5 (cB.cBs x.ks)
  have d2 := mkD_one 3 (x.ls.map lnkD)
  refine es (fStep_go oN oF c1 c2 (fun r0 r1 r2 => h5 _) ho hc hchk rfl (c2 := [.dat N,.dat F,.own true 5 (cB.cBs x.ks),.own true 3 (x.ls.map lnkD)]) rfl hr (fun r0 r1 r2 r3 r4 => ?_) (c3 := [.dat N,.dat F,.own false 5 (cB.cBs x.ks),.own false 3 (x.ls.map lnkD)]) (fun r0 r1 r2 r3 r4 => ?_) d1 d2)
  ·have := hst r0 r1 r2 r3 r4
   rw [hfx,List.set_append_right _ _ (by omega),show bx.length + 5 - bx.length = 5 by omega] at this
   exact this
  ·have := hwb r0 r1 r2 r3 r4
   rw [List.set_append_right _ _ (by omega),show bx.length + 5 - bx.length = 5 by omega] at this
   exact this
end
theorem firstK_get (k : Int) : ∀ (xs : List Nd) (i : Int),0 <= i -> 0 <= firstK k i xs -> ∃ j : Nat,firstK k i xs = i + j /\ ∃ x,xs[j]? = some x /\ x.k = k
 | [],i,_,h => by rw [firstK] at h; exact absurd h (by decide)
 | x :: xs,i,hi,h => by
  rw [firstK] at h ⊢
  split
  ·rename_i hx
   exact ⟨0,by omega,x,rfl,by simpa using hx⟩
  ·rename_i hx
   rw [if_neg hx] at h
   obtain ⟨j,h1,y,h2,h3⟩ := firstK_get k xs (i + 1) (by omega) h
   exact ⟨j + 1,by omega,y,by simpa using h2,h3⟩
theorem ok_two {n : Nt} (h : OkN n) : ∃ s e : Nat,s < n.nodes.length /\ e < n.nodes.length /\ startN n = s /\ endN n = e /\ kindN n s = 1 /\ kindN n e = 2 /\ (∀ i : Nat,i < n.nodes.length -> kindN n i = 1 -> i = s) /\ (∀ i : Nat,i < n.nodes.length -> kindN n i = 2 -> i = e) := by
 obtain ⟨s,h1,x,h2,h3⟩ := firstK_get 1 n.nodes 0 (by omega) h.2.2.2.2.2.1
 obtain ⟨e,h4,y,h5,h6⟩ := firstK_get 2 n.nodes 0 (by omega) h.2.2.2.2.2.2.1
 have hs := (gsi.1 h2).1
 have he := (gsi.1 h5).1
 have es : startN n = s := by rw [startN,h1]; omega
 have ee : endN n = e := by rw [endN,h4]; omega
 have k1 : kindN n s = 1 := by
  rw [kind_at hs]
  rw [gge hs] at h2
  rw [sij h2]; exact h3
 have k2 : kindN n e = 2 := by
  rw [kind_at he]
  rw [gge he] at h5
  rw [sij h5]; exact h6
 refine ⟨s,e,hs,he,es,ee,k1,k2,fun i hi hk => ?_,fun i hi hk => ?_⟩
 ·have := h.2.2.2.2.1 i hi
  simp only [thirdW,Bool.or_eq_false_iff,hk,es] at this
  have := this.2.1
  simp only [beq_self_eq_true,Bool.true_and,bne_eq_false_iff_eq] at this
  omega
 ·have := h.2.2.2.2.1 i hi
  simp only [thirdW,Bool.or_eq_false_iff,hk,ee] at this
  have := this.2.2
  simp only [beq_self_eq_true,Bool.true_and,bne_eq_false_iff_eq] at this
  omega
theorem gone_iff {n : Nt} {i : Nat} (hi : i < n.nodes.length) : goneN n i = true ↔ kindN n i = 1 ∨ kindN n i = 2 := by
 rw [goneN,gge hi,kind_at hi]
 simp [isEnd]
theorem rank_two {gone : Nat -> Bool} {x y : Nat} (hx : gone x = true) (hy : gone y = true) (hxy : x < y) : ∀ {m : Nat},y < m -> rank gone m + 2 <= m
 | 0,h => by omega
 | m + 1,h => by
  rw [rank]
  by_cases e : y = m
  ·subst e
   rw [if_pos hy]
   have := rank_less hx hxy
   omega
  ·have := rank_two hx hy hxy (m := m) (by omega)
   split <;> omega
theorem begin_len {n : Nt} (h : OkN n) : (beginW n).ks.length + 2 <= n.nodes.length := by
 obtain ⟨s,e,hs,he,_,_,k1,k2,_⟩ := ok_two h
 have g1 := (gone_iff hs).2 (.inl k1)
 have g2 := (gone_iff he).2 (.inr k2)
 have hl := dropK_len (gone := goneN n) (bs := allB 0 n.nodes) (i := 0)
 simp only [rank,Nat.zero_add,Nat.add_zero,allB_len] at hl
 have hne : s ≠ e := by rintro rfl; rw [k1] at k2; cases k2
 show (dropK (goneN n) 0 (allB 0 n.nodes)).length + 2 <= _
 rw [hl]
 rcases Nat.lt_or_gt_of_ne hne with hlt | hlt
 ·exact rank_two g1 g2 hlt he
 ·exact rank_two g2 g1 hlt hs
theorem rank_none {gone : Nat -> Bool} : ∀ {m : Nat},rank gone m = 0 -> ∀ i,i < m -> gone i = true
 | 0,_,i,hi => by omega
 | m + 1,h,i,hi => by
  rw [rank] at h
  split at h
  ·rename_i hg
   by_cases e : i = m
   ·subst e; exact hg
   ·exact rank_none h i (by omega)
  ·omega
theorem begin_nil {n : Nt} (h : OkN n) (hk : (beginW n).ks = []) : n.nodes.length = 2 := by
 obtain ⟨s,e,hs,he,_,_,k1,k2,u1,u2⟩ := ok_two h
 have hl := dropK_len (gone := goneN n) (bs := allB 0 n.nodes) (i := 0)
 simp only [rank,Nat.zero_add,Nat.add_zero,allB_len] at hl
 rw [show dropK (goneN n) 0 (allB 0 n.nodes) = [] from hk] at hl
 have hg := rank_none hl.symm
 have hne : s ≠ e := by rintro rfl; rw [k1] at k2; cases k2
 have hall : ∀ i,i < n.nodes.length -> i = s ∨ i = e := fun i hi => by
  rcases (gone_iff hi).1 (hg i hi) with h1 | h1
  ·exact .inl (u1 i hi h1)
  ·exact .inr (u2 i hi h1)
 have h0 := hall 0 (by omega)
 have h1 := hall 1 (by omega)
 rcases Nat.lt_or_ge 2 n.nodes.length with h2 | h2
 ·have := hall 2 h2
  omega
 ·omega
theorem place_neg {n : Nt} {p : Nat} : decide (placeN n p < 0) = goneN n p := by
 rw [placeN]
 cases hg : goneN n p with
 | true => rw [if_pos rfl]; rfl
 | false => rw [if_neg (by simp)]; simp
theorem begin_L {n : Nt} (h : OkN n) : InvL n (beginW n) := by
 have hE := ok_ends h
 have hi := begin_inv h
 obtain ⟨s,e,hs,he,es,ee,k1,k2,u1,u2⟩ := ok_two h
 have hkid : ∀ b ∈ (beginW n).ks,∃ x nd,n.nodes[x]? = some nd /\ goneN n x = false /\ b = beginB x nd := by
  intro b hb
  obtain ⟨i,hb⟩ := List.getElem?_of_mem hb
  obtain ⟨x,_,h2,h3,h4⟩ := dropK_get hb
  rw [Nat.sub_zero] at h2
  obtain ⟨nd,h5,rfl⟩ := allB_get h2
  rw [Nat.zero_add]
  exact ⟨x,nd,h5,h3,rfl⟩
 refine ⟨hi,fun b hb => ?_,fun b hb => ?_,?_,?_⟩
 ·obtain ⟨x,nd,h5,h3,rfl⟩ := hkid b hb
  have hxl : x < n.nodes.length := (gsi.1 h5).1
  have hkd : kindN n x = nd.k := by
   rw [kind_at hxl]
   rw [gge hxl] at h5
   rw [sij h5]
  have hne : nd.k ≠ 1 /\ nd.k ≠ 2 := by
   rw [goneN,h5] at h3
   simpa [isEnd] using h3
  have hrk := right_kind (h.2.2.1 nd (mog h5))
  have hin : inN n x = true := by simp [inN,hxl]
  rw [beginB,nest_mk]
  refine ⟨?_,fun b hb => by cases hb⟩
  by_cases hg : nd.k = 5 ∨ nd.k = 6 ∨ nd.k = 7
  ·rw [if_pos hg]
   have : ([5,6,7].any fun y => kindN n x == y) = true := by
    rw [hkd]
    rcases hg with hg | hg | hg <;> rw [hg] <;> decide
   simp [rightB,headBad,hin,this]
  ·rw [if_neg hg]
   have hk3 : nd.k = 3 ∨ nd.k = 4 ∨ nd.k = 8 := by omega
   simp [rightB,headBad,hin]
   rcases hk3 with hg | hg | hg <;> simp [hkd,hg]
 ·obtain ⟨x,nd,h5,h3,rfl⟩ := hkid b hb
  have h1 := begin_len h
  have h2 := h.1
  have : deepB (beginB x nd) = 1 := by rw [beginB,deepB,deepB.go]; rfl
  omega
 ·unfold cntW
  rw [<- idxs_filter _ _ 0]
  show (idxs _ 0 (beginL n 0 n.flows)).length = 1
  rw [idxs_begin n (p := fun f => f.fr == (s : Int)) fun f hf k => ?_]
  ·have hl := ok_linked h hs
   simp only [linkedN,k1] at hl
   simp only [if_true,Bool.and_eq_true,beq_iff_eq] at hl
   exact hl.2
  ·rw [place_neg]
   obtain ⟨q,hq⟩ : ∃ q : Nat,f.fr = q := ⟨f.fr.toNat,by have := (hE f hf).1; omega⟩
   have hql : q < n.nodes.length := by have := (hE f hf).1; omega
   rw [hq,tnc,beq_nat,Bool.eq_iff_iff,gone_iff hql,beq_iff_eq]
   constructor
   ·rintro (h1 | h1)
    ·exact u1 q hql h1
    ·obtain ⟨j,hj⟩ := List.getElem?_of_mem hf
     have hl := ok_linked h hql
     simp only [linkedN,h1] at hl
     simp at hl
     have : j ∈ outsN n q := (mem_idxs _ _ _ _).2 ⟨Nat.zero_le _,f,by simpa using hj,by simp [hq]⟩
     rw [hl.2] at this
     cases this
   ·rintro rfl; exact .inl k1
 ·unfold cntW
  rw [<- idxs_filter _ _ 0]
  show (idxs _ 0 (beginL n 0 n.flows)).length = 1
  rw [idxs_begin n (p := fun f => f.to == (e : Int)) fun f hf k => ?_]
  ·have hl := ok_linked h he
   simp only [linkedN,k2] at hl
   rw [if_neg (by decide)] at hl
   simp only [if_true,Bool.and_eq_true,beq_iff_eq] at hl
   exact hl.1
  ·rw [place_neg]
   obtain ⟨q,hq⟩ : ∃ q : Nat,f.to = q := ⟨f.to.toNat,by have := (hE f hf).2; omega⟩
   have hql : q < n.nodes.length := by have := (hE f hf).2; omega
   rw [hq,tnc,beq_nat,Bool.eq_iff_iff,gone_iff hql,beq_iff_eq]
   constructor
   ·rintro (h1 | h1)
    ·obtain ⟨j,hj⟩ := List.getElem?_of_mem hf
     have hl := ok_linked h hql
     simp only [linkedN,h1] at hl
     simp at hl
     have : j ∈ insN n q := (mem_idxs _ _ _ _).2 ⟨Nat.zero_le _,f,by simpa using hj,by simp [hq]⟩
     rw [hl.1] at this
     cases this
    ·exact u2 q hql h1
   ·rintro rfl; exact .inr k2
theorem lgs_app : ∀ (xs ys : List Trm) (m d : Int),lgT.lgs m d (xs ++ ys) = if (lgT.lgs m d xs).1 = true then lgT.lgs m d xs else lgT.lgs (lgT.lgs m d xs).2 d ys
 | [],ys,m,d => by rw [List.nil_append,lgT.lgs,if_neg (by simp)]
 | x :: xs,ys,m,d => by
  rw [List.cons_append,lgT.lgs,lgT.lgs]
  by_cases h : (lgT m d x).1 = true
  ·rw [if_pos h,if_pos h,if_pos rfl]
  ·rw [if_neg h,if_neg h,lgs_app xs ys]
theorem nlarge_ev {n : Nt} {N F : D} (h : IsN n N F) (bx : List Box) : ev cfg (.call 7 [Nq N F] bx) = Rq (B (largeN n)) := by
 obtain ⟨o1,o2⟩ := isN_one h
 obtain ⟨nr,fr,hN,hnr,hmax,hF,hfr,hmax2⟩ := h
 have hlen : nr.length = n.nodes.length := hnr.1
 have hflen : fr.length = n.flows.length := hfr.1
 by_cases hb : (decide ((nr.length : Int) > 30) || decide ((fr.length : Int) > 50)) = true
 ·rw [es (large_big hN hF hb),largeN,<- hlen,<- hflen,<- Bool.or_assoc,hb,Bool.true_or]
 have hb' := hb
 simp only [Bool.not_eq_true,Bool.or_eq_false_iff] at hb'
 obtain ⟨c1,c2⟩ := hb'
 have deep1 : ∀ (t : Trm) {op k : Int} {K : D} {m : Int},IsT t op k K -> -1 <= m -> m <= 1000000 -> ∀ c : Box,ev cfg (.call 25 [Tq op k K,P1 bx,I 1] (bx ++ [Nb N F,[I m],c])) = some (.ret (B (lgT m 1 t).1) (some ⟨bx ++ [Nb N F,[I (lgT m 1 t).2],c],bx.length + 1,false⟩)) := fun t op k K m hT h1 h2 c => by
  have := ldeep_ev t (bx := bx ++ [Nb N F,[I m],c]) (l := bx.length + 1) (d := 1) hT h1 h2 (by omega) (by omega) (by simp)
  rw [this]
  simp
 have loop1 : ∀ (xs : List Nd) (i : Nat) (m : Int),n.nodes.drop i = xs -> -1 <= m -> m <= 1000000 -> ev cfg (.loop 7 5 (qs bx (sh7_5 (P0 bx) (P1 bx) (.dat N) (I nr.length) (I i)) [Nb N F,[I m]])) =
   some (if (lgT.lgs m 1 (xs.map (·.t))).1 = true then .loop .ret (qs bx (se7_5 (P0 bx) (B true) (P1 bx)) [Nb N F,[I (lgT.lgs m 1 (xs.map (·.t))).2]]) else .loop (.exit 0) (qs bx (se7_5 (P0 bx) .dead (P1 bx)) [Nb N F,[I (lgT.lgs m 1 (xs.map (·.t))).2]])) := by
  intro xs
  induction xs with
  | nil =>
   intro i m hd h1 h2
   rw [List.map_nil,lgT.lgs,if_neg (by simp)]
   exact es (large_e1 o1 o2 (by rw [hlen]; exact drop_nil hd))
  | cons x xs ih =>
   intro i m hd h1 h2
   obtain ⟨hget,hd',hlt⟩ := drop_cons hd
   obtain ⟨row,hrow,_,_,op,k,K,rfl,hT⟩ := hnr.2 i x hget
   have hr := large_r1 (res := lgT m 1 x.t) hN o2 hrow (by rw [hlen]; exact hlt) (by rw [hlen]; exact hmax) (isT_one hT) (deep1 x.t hT h1 h2)
   rw [List.map_cons,lgT.lgs]
   by_cases hc : (lgT m 1 x.t).1 = true
   ·rw [if_pos hc] at hr
    rw [if_pos hc,if_pos rfl]
    exact es hr
   ·rw [if_neg hc] at hr
    rw [if_neg hc]
    have := lgT_ge x.t m 1
    exact es (hr.trans (ih (i + 1) _ hd' (lgT_lo x.t m 1 hc) (by omega)))
 have loop2 : ∀ (xs : List Fl) (i : Nat) (m : Int),n.flows.drop i = xs -> -1 <= m -> m <= 1000000 -> ev cfg (.loop 7 11 (qs bx (sh7_11 (P1 bx) (.dat F) (I fr.length) (I i)) [Nb N F,[I m]])) =
   some (if (lgT.lgs m 1 (xs.map (·.c))).1 = true then .loop .ret (qs bx (se7_11 (B true)) [Nb N F,[I (lgT.lgs m 1 (xs.map (·.c))).2]]) else .loop (.exit 2) (qs bx (se7_11 .dead) [Nb N F,[I (lgT.lgs m 1 (xs.map (·.c))).2]])) := by
  intro xs
  induction xs with
  | nil =>
   intro i m hd h1 h2
   rw [List.map_nil,lgT.lgs,if_neg (by simp)]
   exact es (large_e2 o1 o2 (by rw [hflen]; exact drop_nil hd))
  | cons x xs ih =>
   intro i m hd h1 h2
   obtain ⟨hget,hd',hlt⟩ := drop_cons hd
   obtain ⟨row,hrow,_,_,op,k,K,rfl,hT⟩ := hfr.2 i x hget
   have hr := large_r2 (res := lgT m 1 x.c) o1 hF hrow (by rw [hflen]; exact hlt) (by rw [hflen]; exact hmax2) (isT_one hT) (deep1 x.c hT h1 h2)
   rw [List.map_cons,lgT.lgs]
   by_cases hc : (lgT m 1 x.c).1 = true
   ·rw [if_pos hc] at hr
    rw [if_pos hc,if_pos rfl]
    exact es hr
   ·rw [if_neg hc] at hr
    rw [if_neg hc]
    have := lgT_ge x.c m 1
    exact es (hr.trans (ih (i + 1) _ hd' (lgT_lo x.c m 1 hc) (by omega)))
 have hl1 := loop1 n.nodes 0 2000 rfl (by omega) (by omega)
 have hl2 : (lgT.lgs 2000 1 (n.nodes.map (·.t))).1 = false -> _ := fun e => loop2 n.flows 0 (lgT.lgs 2000 1 (n.nodes.map (·.t))).2 rfl (lgT_lo.go _ 2000 1 (by omega) (by rw [e]; decide)) (by have := lgT_ge.go (n.nodes.map (·.t)) 2000 1; omega)
 rw [es (large_f hN hF c1 c2 hl1 hl2),largeN,<- hlen,<- hflen,c1,c2,Bool.false_or,Bool.false_or,lgL,termsN,lgs_app]
 congr 3
 split
 ·rename_i hc; rw [hc]; rfl
 ·rename_i hc
  rw [Bool.not_eq_true] at hc
  rw [hc,Bool.false_or]
theorem less_loop {n : Nt} {N F : D} (h : IsN n N F) (hok : OkN n) (hfl : n.flows.length <= 1000) (hnd : n.nodes.length <= 1000) (hz : ∀ t ∈ termsN n,sizeT t <= 1000000) (hG : Gates n) {ti : Int} (h60 : ti <= 60) :
  ∀ (m i : Nat) (w : Wb),(i : Int) + m = ti -> InvL n w -> w.ks ≠ [] -> ∃ (v : Bool) (w' : Wb),
   ev cfg (.loop 6 9 ⟨(sh6_9 (I ti) (.ptr 0 0) (.ptr 1 0) (I i)),[Nb N F,Wx 9 0 0 (wK w) (wL w)],0,none,false⟩) =
    (if v = true then some (.loop .ret ⟨(se6_9 (B true)),[Nb N F,Wx 9 0 0 (wK w') (wL w')],0,none,false⟩) else some (.loop (.exit 0) ⟨(se6_9 .dead),[Nb N F,Wx 9 0 0 (wK w') (wL w')],0,none,false⟩)) := by
 obtain ⟨oN,oF⟩ := isN_one h
 intro m
 induction m with
 | zero =>
  intro i w hi hw hk
  refine ⟨false,w,?_⟩
  rw [if_neg (by decide)]
  exact es (fless_end oN oF (mkD_one 5 _) (mkD_one 3 _) (by simp; omega))
 | succ m ih =>
  intro i w hi hw hk
  have hs := step_web_ev h hok hfl hnd hz hG hw hk [Nb N F,Wx 9 0 0 (wK w) (wL w)]
  obtain ⟨hx,hx1,hx2,hx3,hx4⟩ := next_L hG hw
  by_cases h0 : (nextW n w).2 = 0
  ·refine ⟨true,w,?_⟩
   rw [if_pos rfl]
   rw [h0,hx2 h0] at hs
   have hwis : IsB (.mk 9 0 0 w.ks w.ls) 9 0 0 (wK w) (wL w) := web_is (n := n) (by have := hok.2.1; omega) hw.inv
   have hsame := fun bx : List Box => same_ev _ _ hwis hwis bx
   rw [sameB_refl] at hsame
   exact es (fless_stop oN oF (mkD_one 5 _) (mkD_one 3 _) (by simp; omega) hs (mkD_one 5 _) (mkD_one 3 _) hsame malt_ev3)
  ·obtain ⟨v,w',hv⟩ := ih (i + 1) (nextW n w).1 (by omega) hx (hx4 hk)
   refine ⟨v,w',?_⟩
   obtain ⟨l1,l2⟩ := hx1 h0
   have hxk := hx4 hk
   generalize (nextW n w).1 = x at *
   generalize (nextW n w).2 = kd at *
   have hxis : IsB (.mk 9 0 0 x.ks x.ls) 9 0 0 (wK x) (wL x) := web_is (n := n) (by have := hok.2.1; omega) hx.inv
   obtain ⟨R,M,hR,href⟩ := ref_ev _ hxis (web_ok hx.inv)
   obtain ⟨oR,oM⟩ := isB_one hR
   have hw2 := fun b0 b1 b2 : Box => qwrong_ev h hok hfl hnd hz hG hx hxk hR [b0,b1,b2]
   have h9 := (fless_go (i := i) (ti := ti) oN oF (mkD_isS 5 _) (mkD_isS 3 _) (by simp; omega) (by omega) hs (mkD_isS 5 _) (mkD_isS 3 _) (by simpa using h0) (by simp; omega) (by simp; omega) (by rw [List.length_map,List.length_map]; simp; omega) (by rw [cBs_len,cBs_len]; simp; omega) (fun b0 b1 b2 => href _) oR oM hw2).trans hv
   cases v with
   | true => rw [if_pos rfl] at h9 ⊢; exact es h9
   | false => rw [if_neg (by decide)] at h9 ⊢; exact es h9
theorem foldLess_ev {N F : D} {n : Nt} (h : IsN n N F) {ti : Int} : ev cfg (.call 6 [Nq N F,I ti] []) = Rq (B true) := by
 obtain ⟨oN,oF⟩ := isN_one h
 have hlg := fun bx : List Box => nlarge_ev h bx
 cases hl : largeN n with
 | true =>
  rw [hl] at hlg
  exact es (fless_big oN oF hlg malt_ev1)
 | false =>
 rw [hl] at hlg
 obtain ⟨q1,q2,q3⟩ := large_size hl
 have hz : ∀ t ∈ termsN n,sizeT t <= 1000000 := fun t ht => by have := q3 t ht; omega
 obtain ⟨r,q,hr,h5⟩ := rncheck_ev h (by omega) (by omega) hz
 by_cases hv : (false || (decide (ti < 0) || (decide (ti > 60) || (r != 0)))) = true
 ·exact es (fless_alt oN oF hlg h5 malt_ev1 hv)
 simp only [Bool.false_or,Bool.or_eq_true,dqE,bne_iff_ne,ne_eq,not_or,Decidable.not_not] at hv
 obtain ⟨c1,c2,rfl⟩ := hv
 have hok := hr.1 rfl
 have hG := ok_gates hok
 have hb := fun b0 : Box => (begin_ev h (by omega) (by omega) hz [b0]).1 hok
 have hw := begin_L hok
 have hnl : (beginW n).ks = [] -> n.nodes.length = 2 := begin_nil hok
 generalize beginW n = w at *
 have d1 : decide (ti < 0) = false := by simpa using c1
 have d2 : decide (ti > 60) = false := by simpa using c2
 have hh := h
 obtain ⟨nr,fr,hN,hnr,_⟩ := hh
 by_cases hk : w.ks = []
 ·have e : cB.cBs w.ks = [] := by rw [hk]; rfl
  have hK : IsS 5 [] (wK w) := by show IsS 5 [] (mkD 5 (cB.cBs w.ks)); rw [e]; exact isS_nil 5
  refine es (fless_nil hN oF hlg h5 malt_ev2 d1 d2 hb hK (mkD_one 3 _) ?_)
  rw [hnr.1,hnl hk]; rfl
 ·obtain ⟨v,w',hlp⟩ := less_loop h hok (by omega) (by omega) hz hG (ti := ti) (by omega) ti.toNat 0 w (by omega) hw hk
  refine es (fless_f oN oF hlg h5 d1 d2 hb (mkD_isS 5 _) (mkD_one 3 _) ?_ malt_ev2 (mkD_one 5 _) (mkD_one 3 _) hlp)
  rw [cBs_len]
  have := List.length_pos_iff.2 hk
  simpa using by omega
open Go.ChangeShapes Go.WideShapes Go.ChangeAt Go.WideElems Go.RowKit
set_option maxRecDepth 100000
theorem foldLess_lifted (os : Os) (started : os.Started) (H : Type) (enc : TypeId × Value -> H) :
  ReturnsInHanded {} Tryz.checked os 6 .any (fun w args => (Rows.foldLessSpec.pre enc Tryz.prog Tryz.f6 [] false w args /\ laidMetH Tryz.prog laidNames w) /\ sizedMet enc Tryz.prog Tryz.f6 (OpenSpec.ofChange Rows.foldLessSpec) false w args)
   (Rows.foldLessSpec.post enc Tryz.prog Tryz.f6 false true false false) := by
 refine returnsInHanded_of_change_and (C := Tryz.checked) (X := fun w _ => laidMetH Tryz.prog laidNames w) (fun _ _ _ hh h => h.of_heap hh) own started (by kernel_rfl) Tryz.func6
  (ChangeSpec.witness_shaped (enc := enc) (C := Tryz.checked) (os := os) (X := fun w _ => laidMetH Tryz.prog laidNames w) false (World.doorLaid Tryz.prog 400 os) #[.agg #[.slice none 0 0,.slice none 0 0],.int .i64 0] 8 rfl (World.shaped_of_RefB (by kernel_rfl) (by kernel_rfl)) (by kernel_rfl) (by kernel_rfl) (by kernel_rfl) (door_met os _)) ?_
 intro W base args ds gs before hval0 hW _ _ hL _
 have hval : ∀ (j : Nat) t v,Tryz.f6.params[j]? = some t -> args[j]? = some v -> Value.okWide Tryz.prog W .any base t v := hval0
 have hW' := hW
 obtain ⟨p,q,hA0,hV,rfl,hfz,hnd⟩ := hW
 have hA : DataW.TrodAll enc Tryz.prog W 0 (fun _ => true) true Tryz.f6.params.toList args.toList ds p := hA0
 rw [Tryz.params6] at hA hval
 obtain ⟨v0,v1,d0,d1,p0,p1,rfl,rfl,rfl,h0,h1⟩ := trodAll_two hA
 obtain ⟨rfl,rfl⟩ := trodVars_none hV
 obtain ⟨cs0,rfl,hcs0⟩ := okWide_struct Tryz.underlying25 (hval 0 25 v0 rfl rfl)
 obtain ⟨b1,rfl⟩ := okWide_int Tryz.underlying3 (hval 1 3 v1 rfl rfl)
 obtain ⟨fuel0,hf0⟩ := h0
 obtain ⟨D0,hfit0,hrel0⟩ := trod_fit ti_ok fitT_ok fuel0 25 cs0.toList _ (by decide) hf0
 obtain ⟨b0,N0,F0,rfl,hB0⟩ := (fit_q hfit0).net rfl
 obtain ⟨fuel1,hf1⟩ := h1
 have hg := glob_ok hL
 clear hA0 hval0
 simp only [List.append_nil] at hW'
 refine (top_sound cfg_ok (foldLess_ev (ti := b1) hB0) hg (us := [.agg cs0,.int .i64 b1]) rfl (fun j c u hc hu => ?_)).mono fun e W' he => ?_
 ·match j,hc,hu with
  | 0,hc,hu =>
   simp only [List.getElem?_cons_succ,List.getElem?_cons_zero,sjE] at hc hu
   subst hc; subst hu
   exact relA_agg hrel0
  | 1,hc,hu =>
   simp only [List.getElem?_cons_succ,List.getElem?_cons_zero,sjE] at hc hu
   subst hc; subst hu
   exact relA_dat (.lit _ rfl)
  | j + 2,hc,hu => simp at hc
 ·cases e with
  | returned u =>
   obtain ⟨rfl,hb⟩ := he
   refine ⟨_,rfl,post_below (pa := p0 ++ p1) (pv := []) hW' (fun _ _ _ => trodAll_mk1 (shut_bool Tryz.underlying4 _)) (fun sp hsp => ?_) (fun _ _ => rfl) (by simp) hb (ok_one (by kernel_rfl) rfl (okWide_bool_mk Tryz.underlying4 _))⟩
   have hlt : ∀ x ∈ p0 ++ p1,x.block < W.heap.size := fun x hx => hW'.lt x (by simpa using hx)
   have hsp' : ∀ x ∈ p0 ++ p1,sp x.block = true := fun x hx => hsp x (by simpa using hx)
   exact trodAll_mk2 (WideElems.Trod_stays laidOut (by kernel_rfl) (by decide +kernel) ⟨fuel0,hf0⟩ (fun x hx => hb.same (hlt x (List.mem_append_left _ hx))) (fun x hx => hsp' x (List.mem_append_left _ hx))) (WideElems.Trod_stays laidOut (by kernel_rfl) (by decide +kernel) ⟨fuel1,hf1⟩ (fun x hx => hb.same (hlt x (List.mem_append_right _ hx))) (fun x hx => hsp' x (List.mem_append_right _ hx)))
  | panicked => exact he.elim
  | outgrown => exact he.elim
theorem foldLess_holds : Rows.FoldLessSaid :=
 OpenClaim.holds_of_wide 6 Tryz.f6 rfl rfl rfl rfl rfl rfl rfl ⟨rfl,rfl,rfl,rfl,rfl⟩ rfl rfl rfl rfl rfl (by kernel_rfl) Tryz.func6 (by kernel_rfl)
  (of_decide_eq_true (by kernel_rfl)) (by unfold Func.isWrapper; first | (rw [if_pos (by decide +kernel)]; kernel_rfl) | (rw [if_neg (by decide +kernel)]; exact ⟨rfl,rfl⟩))
  (fun os started H enc _ => foldLess_lifted os started H enc)
theorem foldLess_card : Rows.FoldLessCardSaid :=
 Claim7.holds_tied_plain_at .later [] [.widerDeep, .data] true (true, "9d75f9c0ebd5a2f332765d340f49f917db3049bf4453aebe46905d788bb2aee2") false
  foldLess_holds (fun _ h => by cases h) (by kernel_rfl) (fun _ h => by cases h) foldLess_row_tie rfl ⟨rfl,rfl⟩ (by kernel_rfl) rfl
  (fun f fn hf hfn => by
   obtain rfl : f = 6 := sij ((show Tryz.prog.funcNamed "treenail/treenaillaw11.FoldLess" = some 6 by kernel_rfl).symm.trans hf) |>.symm
   obtain rfl : fn = Tryz.f6 := (sij (Tryz.func6.symm.trans hfn)).symm
   exact ⟨by kernel_rfl,fun j t ht => by
    rw [Tryz.params6] at ht
    have hm : t ∈ [25,3] := by simpa using Array.mem_of_getElem? ht
    have hall : ([25,3].all fun u => !Tryz.prog.wantsStandIn u) = true := by kernel_rfl
    exact (show Tryz.prog.wantsStandIn t = false by simpa using List.all_eq_true.1 hall t hm)⟩)
  (by kernel_rfl)
#print axioms foldLess_card
end Go.Proofs.YtifckjhggamefaaGreatDoor
