/- How often a node stands in a web that is folded: in plain lists. No condition. -/
import Derived.Test.YtifckjhggamefaaGreatDoorHv
import Derived.Test.YtifckjhggamefaaGreatDoorHk
import Derived.Test.YtifckjhggamefaaGreatDoorHp
import Derived.Test.YtifckjhggamefaaGreatDoorHq
set_option linter.unusedSimpArgs false
set_option linter.unusedVariables false
set_option linter.unusedSectionVars false
namespace Go.Proofs.YtifckjhggamefaaGreatDoor
open Go Go.Vx
def wtF (f : Blk -> Nat) (ks : List Blk) : Nat := (ks.map f).sum
def sumG (f : Blk -> Nat) (p : Nat -> Bool) : Nat -> List Blk -> Nat
 | _,[] => 0
 | i,b :: bs => (if p i = true then f b else 0) + sumG f p (i + 1) bs
section
variable {f : Blk -> Nat}
theorem dropK_sumG {gone : Nat -> Bool} : ∀ {bs : List Blk} {i : Nat},wtF f (dropK gone i bs) = sumG f (fun x => !gone x) i bs
 | [],i => rfl
 | b :: bs,i => by
  rw [dropK,sumG]
  have ih := dropK_sumG (gone := gone) (bs := bs) (i := i + 1)
  cases gone i <;> simp [<- ih,wtF]
theorem sumG_split (p : Nat -> Bool) : ∀ {bs : List Blk} {i : Nat},sumG f p i bs + sumG f (fun x => !p x) i bs = wtF f bs
 | [],i => rfl
 | b :: bs,i => by
  rw [sumG,sumG]
  have ih := sumG_split p (bs := bs) (i := i + 1)
  simp only [wtF,List.map_cons,List.sum_cons] at ih ⊢
  cases hp : p i <;> simp <;> omega
theorem sumG_none {p : Nat -> Bool} : ∀ {bs : List Blk} {i : Nat},(∀ x,i <= x -> p x = false) -> sumG f p i bs = 0
 | [],i,_ => rfl
 | b :: bs,i,h => by
  rw [sumG,h i (Nat.le_refl i),sumG_none (bs := bs) fun x hx => h x (by omega)]
  rfl
theorem sumG_one {a : Nat} : ∀ {bs : List Blk} {i : Nat},i <= a -> sumG f (fun x => x == a) i bs = atF f bs (a - i)
 | [],i,_ => by simp [sumG,atF]
 | b :: bs,i,h => by
  rw [sumG]
  by_cases e : i = a
  ·subst e
   rw [sumG_none fun x hx => by simp; omega]
   simp [atF]
  ·rw [sumG_one (by omega),if_neg (by simpa using e),show a - i = (a - (i + 1)) + 1 by omega]
   simp [atF]
theorem sumG_or {p q : Nat -> Bool} (h : ∀ x,p x = true -> q x = false) : ∀ {bs : List Blk} {i : Nat},sumG f (fun x => p x || q x) i bs = sumG f p i bs + sumG f q i bs
 | [],i => rfl
 | b :: bs,i => by
  rw [sumG,sumG,sumG,sumG_or h (bs := bs) (i := i + 1)]
  cases hp : p i
  ·simp; omega
  ·simp [h i hp]; omega
theorem sumG_list : ∀ {L : List Nat} {ks : List Blk},L.Nodup -> (L.map (atF f ks)).sum = sumG f L.contains 0 ks
 | [],ks,_ => by rw [sumG_none (p := ([] : List Nat).contains) fun x _ => rfl]; rfl
 | a :: L,ks,h => by
  obtain ⟨h1,h2⟩ := List.nodup_cons.1 h
  have e : (a :: L).contains = fun x => (x == a) || L.contains x := by
   funext x; rw [List.contains_cons]
  rw [e,sumG_or fun x hx => by
   have : x = a := by simpa using hx
   subst this; simpa using h1,sumG_one (Nat.zero_le a),List.map_cons,List.sum_cons,sumG_list h2]
  rfl
theorem drop_wt {ks : List Blk} {gone : Nat -> Bool} {L : List Nat} (hn : L.Nodup) (hg : ∀ x,gone x = true ↔ x ∈ L) : wtF f (dropK gone 0 ks) + (L.map (atF f ks)).sum = wtF f ks := by
 rw [dropK_sumG,sumG_list hn]
 have e : gone = L.contains := by
  funext x
  rw [Bool.eq_iff_iff,hg x]
  simp
 have h1 := sumG_split (f := f) gone (bs := ks) (i := 0)
 rw [e] at h1 ⊢
 omega
theorem set_wt : ∀ {ks : List Blk} {s : Nat} {c : Blk},s < ks.length -> wtF f (ks.set s c) + atF f ks s = wtF f ks + f c
 | [],s,c,h => by simp at h
 | x :: xs,0,c,h => by
  simp only [List.set_cons_zero,wtF,List.map_cons,List.sum_cons,atF,List.getElem?_cons_zero]; omega
 | x :: xs,s + 1,c,h => by
  have := set_wt (ks := xs) (s := s) (c := c) (by simpa using h)
  simp only [List.set_cons_succ,wtF,List.map_cons,List.sum_cons,atF,List.getElem?_cons_succ] at this ⊢
  omega
theorem shp_wt {w x : Wb} {s : Nat} {B : Blk} {gone : List Int} {cut : List Nat} {p : Nat} {L : List Nat} (S : Shp w x s B gone cut p L) : wtF f x.ks + (L.map (atF f w.ks)).sum + atF f w.ks s = wtF f w.ks + f B := by
 have h1 := drop_wt (f := f) (ks := w.ks.set s B) (gone := inL gone) S.Ln S.Lg
 have h2 := set_wt (f := f) (c := B) S.sl
 have e : L.map (atF f (w.ks.set s B)) = L.map (atF f w.ks) := List.map_congr_left fun y hy => by
  have : s ≠ y := fun e => by
   have h3 := (S.Lg y).2 hy
   rw [<- e,S.sg] at h3; cases h3
  rw [atF,atF,List.getElem?_set_ne this]
 rw [e] at h1
 rw [S.eq]
 show wtF f (dropK (inL gone) 0 (w.ks.set s B)) + _ + _ = _
 omega
end
def cntB (n : Nt) (z : Int) (b : Blk) : Nat := (nodesB n b).count z
theorem cnt_go (n : Nt) (z : Int) : ∀ bs : List Blk,(nodesB.go n bs).count z = wtF (cntB n z) bs
 | [] => by rw [nodesB.go]; rfl
 | b :: bs => by rw [nodesB.go,List.count_append,cnt_go n z bs]; simp [wtF,cntB]
theorem cnt_mk (n : Nt) (z k nd a : Int) (ks : List Blk) (ls : List Lk) : cntB n z (.mk k nd a ks ls) = (nodeL n k nd).count z + wtF (cntB n z) ks := by
 rw [cntB,nodesB,List.count_append,cnt_go]
theorem cnt_empty (n : Nt) (z : Int) : cntB n z emptyB = 0 := by
 rw [emptyB,cnt_mk]; simp [nodeL,wtF]
theorem cnt_row (n : Nt) (z : Int) (l : List Blk) : cntB n z (rowB l) = wtF (cntB n z) l := by
 match l with
 | [] => rw [show rowB [] = emptyB from rfl,cnt_empty]; rfl
 | [b] => rw [show rowB [b] = b from rfl]; simp [wtF]
 | a :: b :: l =>
  rw [show rowB (a :: b :: l) = .mk 3 0 0 (a :: b :: l) [] from rfl,cnt_mk]
  simp [nodeL]
theorem cnt_parts (n : Nt) (z : Int) {b : Blk} (h : b.kd ≠ 1 ∨ b = emptyB) : wtF (cntB n z) (partsB b) = cntB n z b := by
 rcases h with h | rfl
 ·obtain ⟨k,nd,a,ks,ls⟩ := b
  rw [partsB]
  split
  ·rename_i h3
   subst h3
   rw [cnt_mk]; simp [nodeL]
  ·rw [if_neg (show ¬ k = 1 from h)]; simp [wtF]
 ·rw [cnt_empty]; rfl
theorem wt_app {f : Blk -> Nat} (xs ys : List Blk) : wtF f (xs ++ ys) = wtF f xs + wtF f ys := by simp [wtF]
theorem gate_right {n : Nt} {b : Blk} (h : nestB n b = true) (h8 : b.kd = 8) : kidsB b = [] := by
 obtain ⟨k,nd,a,ks,ls⟩ := b
 simp only [Blk.kd] at h8
 subst h8
 have := (nest_mk.1 h).1
 rw [rightB] at this
 split at this
 ·cases this
 ·simp at this
  exact this.2.1
theorem leaf_right {n : Nt} {b : Blk} (h : nestB n b = true) (h2 : b.kd = 2) : kidsB b = [] := by
 obtain ⟨k,nd,a,ks,ls⟩ := b
 simp only [Blk.kd] at h2
 subst h2
 have := (nest_mk.1 h).1
 rw [rightB] at this
 split at this
 ·cases this
 ·simp at this
  exact this.2.1
def here (z nd : Int) : Nat := if nd = z then 1 else 0
theorem cnt_one (z nd : Int) : ([nd] : List Int).count z = here z nd := by
 unfold here
 by_cases h : nd = z
 ·subst h; simp
 ·simp [h]
theorem cnt_gate {n : Nt} {b : Blk} (h : nestB n b = true) (h8 : b.kd = 8) (z : Int) : cntB n z b = here z b.nd := by
 have hk := gate_right h h8
 obtain ⟨k,nd,a,ks,ls⟩ := b
 simp only [Blk.kd,kidsB] at h8 hk
 subst h8; subst hk
 rw [cnt_mk,nodeL,if_neg (by decide),if_pos (by decide),cnt_one]; rfl
theorem cnt_leaf {n : Nt} {b : Blk} (h : nestB n b = true) (h2 : b.kd = 2) (z : Int) : cntB n z b = here z b.nd := by
 have hk := leaf_right h h2
 obtain ⟨k,nd,a,ks,ls⟩ := b
 simp only [Blk.kd,kidsB] at h2 hk
 subst h2; subst hk
 rw [cnt_mk,nodeL,if_neg (by decide),if_pos (by decide),cnt_one]; rfl
structure InvA (n : Nt) (w : Wb) : Prop where
 L : InvL n w
 out : ∀ (i : Nat) b,w.ks[i]? = some b -> b.kd = 8 -> (outsW w.ls i).map (fun k => (lkW w.ls k).2.2) = (outsN n b.nd).map fun (q : Nat) => (q : Int)
theorem outsW_flow (ls : List Lk) (i : Int) : (outsW ls i).map (fun k => (lkW ls k).2.2) = (ls.filter fun l => l.1 == i).map (·.2.2) := by
 have go : ∀ (xs pre : List Lk),(idxs (fun l : Lk => l.1 == i) pre.length xs).map (fun k => (lkW (pre ++ xs) k).2.2) = (xs.filter fun l => l.1 == i).map (·.2.2) := by
  intro xs
  induction xs with
  | nil => intro pre; rfl
  | cons x xs ih =>
   intro pre
   have h := ih (pre ++ [x])
   rw [List.length_append,List.length_singleton,List.append_assoc,List.singleton_append] at h
   rw [idxs,List.filter_cons]
   split
   ·rw [List.map_cons,List.map_cons,h]
    congr 1
    simp [lkW,List.getD]
   ·exact h
 exact go ls []
theorem filter_set {p : Lk -> Bool} : ∀ {ls : List Lk} {k : Nat} {v : Lk},k < ls.length -> p v = false -> p (lkW ls k) = false -> (ls.set k v).filter p = ls.filter p
 | [],k,v,h,_,_ => by simp at h
 | x :: xs,0,v,h,h1,h2 => by
  have : p x = false := h2
  simp [h1,this]
 | x :: xs,k + 1,v,h,h1,h2 => by
  have := filter_set (ls := xs) (k := k) (v := v) (by simpa using h) h1 (by simpa [lkW] using h2)
  rw [List.set_cons_succ,List.filter_cons,List.filter_cons,this]
theorem dropL_flow {gone cut : Nat -> Bool} {p p' : Lk -> Bool} : ∀ {ls : List Lk} {i : Nat},(∀ k l,ls[k]? = some l -> cut (i + k) = false -> p' (renum gone l.1,renum gone l.2.1,l.2.2) = p l) -> (∀ k l,ls[k]? = some l -> cut (i + k) = true -> p l = false) →
  ((dropL gone cut i ls).filter p').map (·.2.2) = (ls.filter p).map (·.2.2)
 | [],i,_,_ => rfl
 | x :: ls,i,h,hc => by
  have ih := dropL_flow (gone := gone) (cut := cut) (p := p) (p' := p') (ls := ls) (i := i + 1) (fun k l hk hc => h (k + 1) l (by simpa using hk) (by rw [show i + (k + 1) = i + 1 + k by omega]; exact hc)) (fun k l hk h9 => hc (k + 1) l (by simpa using hk) (by rw [show i + (k + 1) = i + 1 + k by omega]; exact h9))
  rw [dropL]
  by_cases hci : cut i = true
  ·rw [if_pos hci,ih,List.filter_cons,if_neg (by rw [hc 0 x rfl (by simpa using hci)]; decide)]
  ·have e := h 0 x rfl (by simpa using hci)
   rw [if_neg hci,List.filter_cons,List.filter_cons,e]
   split
   ·rw [List.map_cons,List.map_cons,ih]
   ·exact ih
theorem shp_A {n : Nt} {w x : Wb} {s : Nat} {B : Blk} {gone : List Int} {cut : List Nat} {p : Nat} {L : List Nat} (h : InvA n w) (hx : InvL n x) (S : Shp w x s B gone cut p L) (hB : B.kd ≠ 8) : InvA n x := by
 refine ⟨hx,fun i b hb h8 => ?_⟩
 rw [S.eq] at hb ⊢
 obtain ⟨y,_,h2,h3,h4⟩ := dropK_get hb
 rw [Nat.sub_zero] at h2
 have e0 : rank (inL gone) 0 = 0 := rfl
 rw [e0,Nat.zero_add] at h4
 subst h4
 by_cases hys : y = s
 ·subst hys
  rw [gss S.sl] at h2
  exact absurd h8 (by rw [<- sij h2]; exact hB)
 rw [List.getElem?_set_ne (Ne.symm hys)] at h2
 rw [<- h.out y b h2 h8,outsW_flow,outsW_flow]
 show ((dropL (inL gone) cut.contains 0 (setFrom w.ls p s)).filter _).map _ = _
 obtain ⟨q,hq,hqg⟩ := S.pf
 have hpy : (lkW w.ls p).1 ≠ (y : Int) := fun e => by
  have : q = y := by omega
  rw [this,h3] at hqg; cases hqg
 have hsy : (s : Int) ≠ (y : Int) := fun e => hys (by omega)
 rw [dropL_flow (p := fun l : Lk => l.1 == (y : Int)) (fun k l hk hc => ?_) (fun k l hk hc => ?_)]
 ·congr 1
  exact filter_set S.pl (by simpa using hsy) (by simpa using hpy)
 ·have hc' : k ∉ cut := fun hm => by simp [hm] at hc
  exact renum_eq (fun h0 => (S.kept k l hk hc').fr h0) h3
 ·rw [Nat.zero_add] at hc
  have hc' : k ∈ cut := by simpa using hc
  rcases (mem_setFrom S.pl).1 hk with ⟨rfl,rfl⟩ | ⟨h5,h6⟩
  ·simpa using hsy
  ·rw [<- Bool.not_eq_true]
   intro hh
   exact S.out y k h3 hys (mem_outs.2 ⟨l,h6,by simpa using hh⟩) hc'
def Loses (n : Nt) (w x : Wb) : Prop := ∃ v : Int,(v = -1 ∨ kindN n v = 5 ∨ kindN n v = 6 ∨ kindN n v = 7) /\ ∀ z : Int,0 <= z -> wtF (cntB n z) x.ks + here z v = wtF (cntB n z) w.ks
theorem at_get {f : Blk -> Nat} {ks : List Blk} {i : Nat} {b : Blk} (h : ks[i]? = some b) : atF f ks i = f b := by rw [atF,h]
theorem one_A {n : Nt} {w x : Wb} (h : InvA n w) {a : Nat} (ha : a < w.ks.length) (hx : oneAt w a = some x) : InvA n x /\ Loses n w x := by
 have hxL := (one_L h.L ha hx).1
 obtain ⟨_,b,ka,kb,gone,cut,p,hka,hkb,_,hga,hgb,S⟩ := one_all h.L.inv ha hx
 have ma := kid_kd h.L.inv (mog hka)
 have mb := kid_kd h.L.inv (mog hkb)
 refine ⟨shp_A h hxL S ?_,-1,.inl rfl,fun z hz => ?_⟩
 ·have h1 := parts_nest (h.L.nest _ (mog hka)) (gate_kd hka hga) ma.2.1 ma.2.2
  have h2 := parts_nest (h.L.nest _ (mog hkb)) (gate_kd hkb hgb) mb.2.1 mb.2.2
  exact (row_nest fun y hy => (List.mem_append.1 hy).elim (h1 y) (h2 y)).2.1
 ·have h1 := shp_wt (f := cntB n z) S
  rw [cnt_row,wt_app,cnt_parts n z (.inl ma.1),cnt_parts n z (.inl mb.1),List.map_singleton,List.sum_singleton,at_get hka,at_get hkb] at h1
  have h0 : here z (-1) = 0 := by unfold here; rw [if_neg (by omega)]
  omega
theorem ways_wt {n : Nt} {w : Wb} (h : InvL n w) (f : Blk -> Nat) (h0 : f emptyB = 0) : ∀ (Q : List Nat),(∀ q ∈ Q,q < w.ls.length) →
  ((Q.filterMap fun q => byN (followW w q)).map (atF f w.ks)).sum = (Q.map fun q => f (partW w (followW w q))).sum
 | [],_ => rfl
 | q :: Q,hq => by
  have ih := ways_wt h f h0 Q fun x hx => hq x (mcm _ hx)
  rw [List.map_cons,List.sum_cons,List.filterMap_cons]
  rcases follow_cases h.inv (hq q mcs) with ⟨e,_⟩ | ⟨b,o,_,hbl,_,_,_,e⟩
  ·have e1 : byN (followW w q) = none := by rw [e]; rfl
   have e3 : f (partW w (followW w q)) = 0 := by rw [e]; exact h0
   simp only [e1]
   omega
  ·have e1 : byN (followW w q) = some b := by rw [e]; simp [byN]
   have e3 : f (partW w (followW w q)) = atF f w.ks b := by
    rw [e,partW,kid_nat,gge hbl,at_get (gge hbl)]; rfl
   simp only [e1]
   rw [List.map_cons,List.sum_cons,ih,e3]
theorem await_wt {n : Nt} {w : Wb} (h : InvL n w) (z : Int) {q : Nat} (hq : q < w.ls.length) (ha : awaitK n w q = true) :
  cntB n z (partW w (followW w q)) = here z (flowTo n w q) + cntB n z (rowB ((partsB (partW w (followW w q))).drop 1)) := by
 obtain ⟨h1,h2,h3,h4⟩ := part_L h hq
 have hk : (partW w (followW w q)).kd ≠ 1 ∨ partW w (followW w q) = emptyB := by
  rcases part_cases h hq with e | ⟨b,hb,hg⟩
  ·exact .inr e
  ·exact .inl (kid_kd h.inv (mog hb)).1
 have hp := parts_nest h1 h2 h3 h4
 rw [awaitK] at ha
 rw [<- cnt_parts n z hk,cnt_row]
 generalize partsB (partW w (followW w q)) = P at ha hp ⊢
 match P,ha,hp with
 | b :: P,ha,hp =>
  simp only [Bool.and_eq_true,beq_iff_eq] at ha
  have := cnt_leaf (hp b mcs).nest ha.1 z
  simp only [wtF,List.map_cons,List.sum_cons,List.drop_succ_cons,List.drop_zero,this,ha.2]
theorem sum_map_add {α : Type} (f g : α -> Nat) : ∀ l : List α,(l.map fun x => f x + g x).sum = (l.map f).sum + (l.map g).sum
 | [] => rfl
 | x :: l => by
  have := sum_map_add f g l
  simp only [List.map_cons,List.sum_cons] at this ⊢
  omega
theorem count_map_here (z : Int) : ∀ l : List Int,l.count z = (l.map (here z)).sum
 | [] => rfl
 | x :: l => by
  rw [List.count_cons,count_map_here z l,List.map_cons,List.sum_cons,here]
  by_cases h : x = z
  ·subst h; simp; omega
  ·simp [h]
theorem two_A {n : Nt} {w x : Wb} (hG : Gates n) (h : InvA n w) {s : Nat} (hs : s < w.ks.length) (hx : twoAt n w s = some x) : InvA n x /\ Loses n w x := by
 have hxL := (two_L hG h.L hs hx).1
 obtain ⟨_,j,gone,cut,p,C,S⟩ := two_all hG h.L.inv hs hx
 obtain ⟨bs,hbs,hgs,hbs8,hnode,hgk,hnr,hkn,hcnt⟩ := gate_ok hG h.L.inv C.gs
 have hgjne : gkW n w j ≠ 0 := by
  rw [C.gj]; unfold joinOf; split <;> decide
 obtain ⟨bj,hbj,hgj,hbj8,_,hgkj,_,hkj,_⟩ := gate_ok hG h.L.inv hgjne
 have hq : ∀ q ∈ outsW w.ls s,q < w.ls.length := fun q hm => (outsW_lt hm).1
 refine ⟨shp_A h hxL S ?_,bj.nd,.inr hkj,fun z hz => ?_⟩
 ·show blockOf (gkW n w s) ≠ 8
  unfold blockOf
  split
  ·decide
  ·split <;> decide
 have h1 := shp_wt (f := cntB n z) S
 rw [List.map_cons,List.sum_cons,at_get hbj,at_get hbs,cnt_gate (h.L.nest _ (mog hbs)) hbs8,cnt_gate (h.L.nest _ (mog hbj)) hbj8,ways_wt h.L _ (cnt_empty n z) _ hq,cnt_mk,hnode] at h1
 have hw : wtF (cntB n z) ((waysW w s).map (pieceW w (gkW n w s))) = ((outsW w.ls s).map fun q => cntB n z (pieceW w (gkW n w s) (followW w q))).sum := by
  rw [wtF,waysW,List.map_map,List.map_map]; rfl
 rw [hw] at h1
 have key : (nodeL n (blockOf (gkW n w s)) bs.nd).count z + ((outsW w.ls s).map fun q => cntB n z (pieceW w (gkW n w s) (followW w q))).sum = here z bs.nd + ((outsW w.ls s).map fun q => cntB n z (partW w (followW w q))).sum := by
  by_cases h7 : gkW n w s = 7
  ·have e1 : ((outsW w.ls s).map fun q => cntB n z (partW w (followW w q))).sum = ((outsW w.ls s).map fun q => here z (flowTo n w q)).sum + ((outsW w.ls s).map fun q => cntB n z (pieceW w (gkW n w s) (followW w q))).sum := by
    rw [<- sum_map_add]
    congr 1
    refine List.map_congr_left fun q hm => ?_
    rw [await_wt h.L z (hq q hm) (C.wait h7 q hm),pieceW,if_pos h7]
   have e2 : ((outsW w.ls s).map fun q => here z (flowTo n w q)).sum = ((outsN n bs.nd).map (toN n)).count z := by
    rw [count_map_here,List.map_map]
    have ho := h.out s bs hbs hbs8
    have e3 : (outsW w.ls s).map (fun q => here z (flowTo n w q)) = ((outsW w.ls s).map fun k => (lkW w.ls k).2.2).map fun v => here z (toN n v.toNat) := by
     rw [List.map_map]
     rfl
    rw [e3,ho,List.map_map]
    congr 1
   rw [h7,e1,e2,show blockOf 7 = 6 from rfl,nodeL,if_pos rfl,List.count_append,cnt_one,h7]
   omega
  ·have e1 : ((outsW w.ls s).map fun q => cntB n z (pieceW w (gkW n w s) (followW w q))) = ((outsW w.ls s).map fun q => cntB n z (partW w (followW w q))) := List.map_congr_left fun q _ => by rw [pieceW,if_neg h7]
   have e2 : (nodeL n (blockOf (gkW n w s)) bs.nd) = [bs.nd] := by
    rcases hkn with e | e | e <;> rw [hgk,e] at h7 ⊢
    ·rfl
    ·rfl
    ·exact absurd rfl h7
   rw [e1,e2,cnt_one]
 omega
theorem three_A {n : Nt} {w x : Wb} (hG : Gates n) (h : InvA n w) {j : Nat} (hj : j < w.ks.length) (hx : threeAt n w j = some x) : InvA n x /\ Loses n w x := by
 have hxL := (three_L hG h.L hj hx).1
 obtain ⟨_,B,gone,cut,p,L,s,lv,d,g,_,_,_,_,hgs,_,hgj,rfl,hf,S⟩ := three_all hG h.L.inv hj hx
 obtain ⟨bs,hbs,_,hbs8,hnode,_⟩ := gate_ok hG h.L.inv (s := s) (by rw [hgs]; decide)
 obtain ⟨bj,hbj,_,hbj8,_,_,_,hkj,_⟩ := gate_ok hG h.L.inv (s := j) (by rw [hgj]; decide)
 refine ⟨shp_A h hxL S (by show (7 : Int) ≠ 8; decide),bj.nd,.inr hkj,fun z hz => ?_⟩
 have h1 := shp_wt (f := cntB n z) S
 have h2 := hf (cntB n z) (cnt_empty n z)
 rw [at_get hbs,cnt_gate (h.L.nest _ (mog hbs)) hbs8] at h2
 rw [at_get hbj,cnt_gate (h.L.nest _ (mog hbj)) hbj8,cnt_mk,hnode,nodeL,if_neg (by decide),if_pos (by decide),cnt_one] at h1
 simp only [wtF,List.map_cons,List.map_nil,List.sum_cons,List.sum_nil] at h1
 simp only [wtF]
 omega
theorem next_A {n : Nt} {w : Wb} (hG : Gates n) (h : InvA n w) : InvA n (nextW n w).1 /\ Loses n w (nextW n w).1 := by
 unfold nextW
 split
 ·rename_i x hx
  obtain ⟨a,_,ha,hx⟩ := first_get hx
  exact one_A h (by omega) hx
 ·split
  ·rename_i x hx
   obtain ⟨a,_,ha,hx⟩ := first_get hx
   exact two_A hG h (by omega) hx
  ·split
   ·rename_i x hx
    obtain ⟨a,_,ha,hx⟩ := first_get hx
    exact three_A hG h (by omega) hx
   ·exact ⟨h,-1,.inl rfl,fun z hz => by
     have h0 : here z (-1) = 0 := by unfold here; rw [if_neg (by omega)]
     show wtF (cntB n z) w.ks + here z (-1) = _
     omega⟩
set_option maxRecDepth 10000
set_option maxHeartbeats 1000000
theorem inN_iff {n : Nt} {i : Int} : inN n i = true ↔ 0 <= i /\ i < n.nodes.length := by simp [inN]
theorem right_in {n : Nt} {k nd a : Int} {ks : List Blk} {ls : List (Int × Int × Int)} (h : rightB n k nd a ks ls = true) (hk : k = 2 ∨ k = 4 ∨ k = 5 ∨ k = 6 ∨ k = 7 ∨ k = 8) : inN n nd = true := by
 have sp : ∀ kd m,splitN n nd kd m = true -> inN n nd = true := fun kd m h => by
  unfold splitN at h
  rw [Bool.and_eq_true] at h
  exact h.1
 unfold rightB at h
 split at h
 ·cases h
 split at h
 ·omega
 split at h
 ·rw [Bool.and_eq_true] at h; exact h.1
 split at h
 ·rw [Bool.and_eq_true] at h; exact h.1
 split at h
 ·omega
 split at h
 ·exact sp _ _ h
 split at h
 ·exact sp _ _ h
 split at h
 ·exact sp _ _ h
 split at h
 ·rw [Bool.and_eq_true] at h; exact sp _ _ h.2
 ·omega
theorem nodeL_in {n : Nt} (hE : Ends n) {k nd a : Int} {ks : List Blk} {ls : List (Int × Int × Int)} (h : rightB n k nd a ks ls = true) : ∀ z ∈ nodeL n k nd,0 <= z /\ z < n.nodes.length := by
 intro z hz
 unfold nodeL at hz
 split at hz
 ·rename_i h6
  rw [List.mem_append,List.mem_map,List.mem_singleton] at hz
  rcases hz with ⟨j,hj,rfl⟩ | rfl
  ·have hlt := outs_lt hj
   rw [to_at hlt]
   exact (hE _ (List.getElem_mem hlt)).2
  ·exact inN_iff.1 (right_in h (by omega))
 ·split at hz
  ·rename_i hk
   rw [List.mem_singleton] at hz
   subst hz
   exact inN_iff.1 (right_in h (by omega))
  ·cases hz
theorem nodes_in {n : Nt} (hE : Ends n) : ∀ b,nestB n b = true -> ∀ z ∈ nodesB n b,0 <= z /\ z < n.nodes.length
 | .mk k nd a ks ls,h,z,hz => by
  rw [nestB,Bool.and_eq_true,Bool.not_eq_true'] at h
  rw [nodesB,List.mem_append] at hz
  rcases hz with hz | hz
  ·exact nodeL_in hE h.1 z hz
  ·exact go k ks h.2 z hz
where
 go (pk : Int) : ∀ bs,nestB.go n pk bs = false -> ∀ z ∈ nodesB.go n bs,0 <= z /\ z < n.nodes.length
 | [],_,z,hz => by rw [nodesB.go] at hz; cases hz
 | b :: bs,h,z,hz => by
  rw [nestB.go,Bool.or_eq_false_iff] at h
  rw [nodesB.go,List.mem_append] at hz
  rcases hz with hz | hz
  ·have h1 := h.1
   simp only [Bool.or_eq_false_iff,Bool.not_eq_false'] at h1
   exact nodes_in hE b h1.2.2.2 z hz
  ·exact go pk bs h.2 z hz
def leafN (n : Nt) (z : Int) : Bool := [3,4,8].any fun y => kindN n z == y
theorem leafp_ev {n : Nt} {N F : D} (h : IsN n N F) {p : Nat} (hp : p < n.nodes.length) {bx : List Box} {l : Nat} (hl : l < bx.length) (hb : bx[l]? = some (Nb N F)) :
  ev cfg (.call 48 [I p,.ptr l 0] bx) = Rq (B (!leafN n p)) := by
 obtain ⟨oN,oF⟩ := isN_one h
 obtain ⟨nr,fr,hN,hnr,_⟩ := h
 obtain ⟨row,hrow,_,_,op,k,K,rfl,hT⟩ := hnr.get hp
 have hc := fun bx : List Box => intHas_ev [3,4,8] (.sl 1 [[dI 3],[dI 4],[dI 8]]) ⟨1,rfl,by simp,rfl⟩ (by decide) n.nodes[p].k bx
 rw [es (leafp_f hN oF hl hb hrow hc),leafN,kind_at hp]
theorem delRows_ev {n : Nt} {N F : D} (h : IsN n N F) {bx : List Box} {l : Nat} (hl : l < bx.length) (hb : bx[l]? = some (Nb N F)) : ∀ zs : List Int,(∀ z ∈ zs,0 <= z /\ z < n.nodes.length) →
  delRows (ev cfg) 48 [l] bx zs = some (zs.filter (leafN n))
 | [],_ => rfl
 | z :: zs,hz => by
  have h1 := hz z mcs
  obtain ⟨p,rfl⟩ : ∃ p : Nat,z = p := ⟨z.toNat,by omega⟩
  have hc := leafp_ev h (p := p) (by omega) hl hb
  have ih := delRows_ev h hl hb zs fun y hy => hz y (mcm _ hy)
  unfold delRows
  rw [show ([l].map fun l => PV.ptr l 0) = [.ptr l 0] from rfl,hc,seqO_some]
  simp only
  rw [ih,seqO_some,List.filter_cons]
  cases leafN n p <;> rfl
def natI (m : Nat) : List Int := (List.range m).map fun (i : Nat) => (i : Int)
def lvL (n : Nt) (b : Blk) : List Int := ((if kB b = 10 then natI n.nodes.length else sortI (nodesB n b))).filter (leafN n)
theorem rules_nodes {n : Nt} {nd a : Int} {ks : List Blk} {ls : List (Int × Int × Int)} (h : rightB n 10 nd a ks ls = true) : nodesB n (.mk 10 nd a ks ls) = [] := by
 unfold rightB at h
 split at h
 ·cases h
 rw [if_pos (by omega),Bool.and_eq_true] at h
 have : ks = [] := by
  have := h.2
  rw [beq_iff_eq] at this
  exact List.eq_nil_of_length_eq_zero (by omega)
 subst this
 rw [nodesB,nodesB.go,nodeL,if_neg (by decide),if_neg (by omega)]; rfl
theorem natI_in {m : Nat} : ∀ z ∈ natI m,0 <= z /\ z < m := by
 intro z hz
 simp only [natI,List.mem_map,List.mem_range] at hz
 obtain ⟨i,hi,rfl⟩ := hz
 omega
theorem leaves_ev {n : Nt} {N F : D} (h : IsN n N F) (hfl : n.flows.length <= 1000) (hnd : n.nodes.length <= 1000) (hz : ∀ t ∈ termsN n,sizeT t <= 1000000) (ok : Bool) (hk : ok = true ↔ OkN n)
  (b : Blk) {k nd a : Int} {K L : D} (hB : IsB b k nd a K L) (hbz : sizeB b <= 1000) (hokl : okL b) :
  ∃ X rows,IsS 1 rows X /\ (chkB ok n b = 0 -> rows = rowsOf (lvL n b)) /\ Cq 20 [Nq N F,Wq k nd a K L] (.tup [.dat X,I (chkB ok n b)]) := by
 have hh := h
 obtain ⟨oN,oF⟩ := isN_one h
 obtain ⟨oK,oL⟩ := isB_one hB
 have hc := fun bx : List Box => bcheck_ev h hfl hnd hz ok hk b hB hbz hokl bx
 have hn := fun bx : List Box => nodes_ev h hfl b hB hbz bx
 by_cases h0 : chkB ok n b = 0
 ·rw [h0] at hc ⊢
  have hok : OkN n /\ nestB n b = true := by
   unfold chkB at h0
   split at h0
   ·cases h0
   rename_i h1
   split at h0
   ·cases h0
   split at h0
   ·cases h0
   rename_i h3
   exact ⟨hk.1 (by simpa using h1),by simpa using h3⟩
  have hE := leads_ends hok.1.2.2.2.1
  have hin := nodes_in hE b hok.2
  have hins : ∀ z ∈ sortI (nodesB n b),0 <= z /\ z < n.nodes.length := fun z hz => hin z ((List.mergeSort_perm _ _).mem_iff.1 hz)
  have hlen := nodesB_len hfl b
  have hsl : (sortI (nodesB n b)).length = (nodesB n b).length := List.length_mergeSort ..
  obtain ⟨k',nd',a',ks,ls⟩ := b
  have hkb : k' = k := by rw [IsB] at hB; exact hB.1.symm
  subst hkb
  by_cases h10 : k' = 10
  ·subst h10
   have hnil : nodesB n (.mk 10 nd' a' ks ls) = [] := by
    have := hok.2
    rw [nestB,Bool.and_eq_true] at this
    exact rules_nodes this.1
   rw [hnil,show sortI ([] : List Int) = [] by simp [sortI]] at hn
   have hnd0 : 0 < n.nodes.length := by
    have hs := hok.1.2.2.2.2.2.1
    rcases Nat.eq_zero_or_pos n.nodes.length with h | h
    ·have he : n.nodes = [] := List.eq_nil_of_length_eq_zero h
     rw [startN,he,firstK] at hs
     exact absurd hs (by decide)
    ·exact h
   obtain ⟨nr,fr,hN,hnr,_⟩ := h
   have hnl : nr.length = n.nodes.length := hnr.1
   refine ⟨.sl 1 (rowsOf ((natI n.nodes.length).filter (leafN n))),_,isS_sl 1 _,fun _ => by rw [lvL]; simp [kB],fun bx => ?_⟩
   have loop : ∀ (m i : Nat) (acc : List Int),i + m = nr.length -> acc = natI i -> 0 < i →
     ev cfg (.loop 20 7 (qs bx (sh20_7 (P0 bx) (.own true 1 (intR acc)) (I nr.length) (I i)) [Nb N F,Wx 10 nd a K L])) =
      some (.loop (.exit 0) (qs bx (se20_7 (P0 bx) (.own true 1 (intR (natI nr.length)))) [Nb N F,Wx 10 nd a K L])) := by
    intro m
    induction m with
    | zero =>
     intro i acc hi ha _
     have : i = nr.length := by omega
     subst this
     rw [ha]
     exact es (leaves_rend oN oF oK oL (Nat.le_refl _))
    | succ m ih =>
     intro i acc hi ha hp
     have hal : acc.length = i := by rw [ha]; simp [natI]
     have h2 := ih (i + 1) (acc ++ [(i : Int)]) (by omega) (by rw [ha]; simp [natI,List.range_succ]) (by omega)
     rw [intR_app] at h2
     exact es ((leaves_r1 oN oF oK oL (by omega) (by omega) (by rw [intR_len]; omega)).trans h2)
   have l0 := es ((leaves_r0 (k := 10) (nd := nd) (a := a) (bx := bx) (i := 0) oN oF oK oL (by omega) (by omega)).trans (loop (nr.length - 1) 1 [0] (by omega) (by simp [natI,List.range_succ]) (by omega)))
   have hd := delRows_ev hh (bx := bx ++ [Nb N F,Wx 10 nd a K L]) (l := bx.length) (by simp) (by simp) (natI nr.length) (by rw [hnl]; exact natI_in)
   rw [show n.nodes.length = nr.length from hnl.symm]
   refine es (leaves_rules hN oF oK oL hc hn l0 (intRows_intR _) (by simp [natI]; omega) (fun e => ?_) hd)
   have := congrArg List.length e
   rw [natI,List.length_map,List.length_range,List.length_nil] at this
   omega
  ·have hk10 : (k' == 10) = false := by simpa using h10
   cases hs : sortI (nodesB n (.mk k' nd' a' ks ls)) with
   | nil =>
    rw [hs] at hn
    refine ⟨.nil,[],isS_nil 1,fun _ => by rw [lvL,kB,if_neg h10,hs]; rfl,fun bx => es (leaves_nil oN oF oK oL hc hk10 hn)⟩
   | cons y ys =>
    rw [hs] at hn hins hsl
    refine ⟨.sl 1 (rowsOf ((y :: ys).filter (leafN n))),_,isS_sl 1 _,fun _ => by rw [lvL,kB,if_neg h10,hs],fun bx => ?_⟩
    exact es (leaves_own oN oF oK oL hc hk10 hn (intRows_intR _) (by omega) (by simp) (delRows_ev hh (by simp) (by simp) _ hins))
 ·refine ⟨.nil,[],isS_nil 1,fun e => absurd e h0,fun bx => es (leaves_err oN oF oK oL hc (by simpa using h0))⟩
theorem compact_lt (zs : List Int) : (Lib.compact zs).length < zs.length ↔ ∃ j,0 < j /\ j < zs.length /\ zs[j]! = zs[j - 1]! := by
 have h1 : (Lib.compact zs).length = ((List.range zs.length).filter (Lib.keeps zs.toArray)).length := by
  unfold Lib.compact Lib.compactUpTo; simp
 rw [h1]
 constructor
 ·intro h
  by_cases hn : ∃ j,0 < j /\ j < zs.length /\ zs[j]! = zs[j - 1]!
  ·exact hn
  ·exfalso
   have : (List.range zs.length).filter (Lib.keeps zs.toArray) = List.range zs.length := by
    rw [List.filter_eq_self]
    intro j hj
    rw [List.mem_range] at hj
    unfold Lib.keeps
    by_cases h0 : j = 0
    ·simp [h0]
    ·have : ¬ zs[j]! = zs[j - 1]! := fun e => hn ⟨j,by omega,hj,e⟩
     simpa [h0] using this
   rw [this,List.length_range] at h
   omega
 ·rintro ⟨j,h0,h2,h3⟩
  have hl : ((List.range zs.length).filter (Lib.keeps zs.toArray)).length <= (List.range zs.length).length := List.length_filter_le ..
  rw [List.length_range] at hl
  rcases Nat.lt_or_ge ((List.range zs.length).filter (Lib.keeps zs.toArray)).length zs.length with h | h
  ·exact h
  ·exfalso
   have he : ((List.range zs.length).filter (Lib.keeps zs.toArray)).length = (List.range zs.length).length := by rw [List.length_range]; omega
   have := (List.length_filter_eq_length_iff.1 he) j (List.mem_range.2 h2)
   unfold Lib.keeps at this
   simp at this
   rcases this with h | h
   ·omega
   ·exact h (by simpa using h3)
theorem compact_dup {zs : List Int} (hs : zs.Pairwise (· <= ·)) : (Lib.compact zs).length < zs.length ↔ ¬ zs.Nodup := by
 rw [compact_lt]
 have hnd : zs.Nodup ↔ ∀ (i j : Nat) (hi : i < zs.length) (hj : j < zs.length),i < j -> zs[i] ≠ zs[j] := List.pairwise_iff_getElem
 rw [hnd]
 constructor
 ·rintro ⟨j,h1,h2,h3⟩ h
  rw [getElem!_pos zs j h2,getElem!_pos zs (j - 1) (by omega)] at h3
  exact h (j - 1) j (by omega) h2 (by omega) h3.symm
 ·intro h
  simp only [Classical.not_forall,ne_eq,Classical.not_not] at h
  obtain ⟨i,j,hi,hj,hij,he⟩ := h
  refine ⟨i + 1,by omega,by omega,?_⟩
  rw [getElem!_pos zs (i + 1) (by omega),getElem!_pos zs (i + 1 - 1) (by omega)]
  have p1 : zs[i] <= zs[i + 1] := List.pairwise_iff_getElem.1 hs i (i + 1) (by omega) (by omega) (by omega)
  have p2 : zs[i + 1] <= zs[j] := by
   rcases Nat.lt_or_ge (i + 1) j with hl | hl
   ·exact List.pairwise_iff_getElem.1 hs (i + 1) j (by omega) hj hl
   ·have : i + 1 = j := by omega
    subst this; exact Int.le_refl _
  simp only [Nat.add_sub_cancel]
  omega
theorem sortI_sorted (l : List Int) : (sortI l).Pairwise (· <= ·) := by
 have := List.pairwise_mergeSort (le := fun x y : Int => decide (x <= y)) (fun a b c h1 h2 => by simp at h1 h2 ⊢; omega) (fun a b => by simp; omega) l
 exact this.imp fun h => by simpa using h
theorem sortI_perm (l : List Int) : (sortI l).Perm l := List.mergeSort_perm l _
theorem dup_iff (l : List Int) : dupB l = true ↔ ¬ l.Nodup := by
 rw [dupB,dqE,compact_dup (sortI_sorted l),(sortI_perm l).nodup_iff]
theorem chk0 {ok : Bool} {n : Nt} {b : Blk} : chkB ok n b = 0 ↔ ok = true /\ longB b = false /\ nestB n b = true /\ (nodesB n b).Nodup := by
 unfold chkB
 have hd := dup_iff (nodesB n b)
 cases ok <;> cases longB b <;> cases nestB n b <;> cases h : dupB (nodesB n b) <;> simp_all
theorem begin_lk {n : Nt} : ∀ {fs : List Fl} {i k : Nat},k < fs.length -> (lkW (beginL n i fs) k).2.2 = ((i + k : Nat) : Int)
 | [],i,k,h => by simp at h
 | f :: fs,i,0,_ => rfl
 | f :: fs,i,k + 1,h => by
  have := begin_lk (n := n) (fs := fs) (i := i + 1) (k := k) (by simpa using h)
  rw [show i + (k + 1) = i + 1 + k by omega,<- this]
  rfl
theorem begin_A {n : Nt} (h : OkN n) : InvA n (beginW n) := by
 have hE := ok_ends h
 refine ⟨begin_L h,fun i b hb h8 => ?_⟩
 obtain ⟨x,_,h2,h3,h4⟩ := dropK_get hb
 rw [Nat.sub_zero] at h2
 obtain ⟨nd,h5,rfl⟩ := allB_get h2
 rw [Nat.zero_add]
 have e0 : rank (goneN n) 0 = 0 := rfl
 rw [e0,Nat.zero_add] at h4
 subst h4
 have c2 : outsW (beginW n).ls (rank (goneN n) x : Nat) = outsN n x := idxs_begin n fun f hf k => place_eq (hE f hf).1.1 h3
 rw [c2]
 have e1 : (beginB x nd).nd = (x : Int) := rfl
 rw [e1]
 refine List.map_congr_left fun k hk => ?_
 have hkl : k < n.flows.length := by
  obtain ⟨_,f,hf,_⟩ := (mem_idxs _ _ _ _).1 hk
  exact (gsi.1 (by simpa using hf)).1
 have := begin_lk (n := n) (fs := n.flows) (i := 0) (k := k) hkl
 rw [Nat.zero_add] at this
 exact this
theorem sum_allB (n : Nt) (z : Nat) (p : Nat -> Bool) : ∀ (xs : List Nd) (i : Nat),sumG (cntB n z) p i (allB i xs) = if i <= z /\ z < i + xs.length /\ p z = true then 1 else 0
 | [],i => by
  rw [allB,sumG,if_neg]
  simp; omega
 | x :: xs,i => by
  rw [allB,sumG,sum_allB n z p xs (i + 1)]
  have hc : cntB n z (beginB i x) = here z i := by
   rw [beginB,cnt_mk]
   split
   ·rw [nodeL,if_neg (by decide),if_pos (by decide),cnt_one]; rfl
   ·rw [nodeL,if_neg (by decide),if_pos (by decide),cnt_one]; rfl
  rw [hc,here]
  by_cases e : i = z
  ·subst e
   rw [if_pos rfl,if_neg (c := i + 1 <= i /\ _) (by omega)]
   cases hp : p i
   ·rw [if_neg (by simp),if_neg (by simp)]
   ·rw [if_pos rfl,if_pos ⟨Nat.le_refl _,by simp,rfl⟩]
  ·rw [if_neg (c := (i : Int) = (z : Int)) (by omega)]
   have e2 : (if p i = true then 0 else 0 : Nat) = 0 := by split <;> rfl
   rw [e2,Nat.zero_add]
   by_cases hz : i <= z /\ z < i + (x :: xs).length /\ p z = true
   ·rw [if_pos hz,if_pos ⟨by omega,by have := hz.2.1; simp at this; omega,hz.2.2⟩]
   ·rw [if_neg hz,if_neg fun hh => hz ⟨by omega,by have := hh.2.1; simp; omega,hh.2.2⟩]
theorem begin_cnt (n : Nt) (z : Nat) : wtF (cntB n z) (beginW n).ks = if z < n.nodes.length /\ goneN n z = false then 1 else 0 := by
 show wtF (cntB n z) (dropK (goneN n) 0 (allB 0 n.nodes)) = _
 rw [dropK_sumG,sum_allB]
 simp
theorem here_ne {z v : Int} (h : v ≠ z) : here z v = 0 := by unfold here; rw [if_neg h]
theorem folds_cnt {n : Nt} (hG : Gates n) : ∀ (k : Nat) {w : Wb},InvA n w -> InvA n (foldsW n k w) /\ ∀ z : Nat,wtF (cntB n z) (foldsW n k w).ks <= wtF (cntB n z) w.ks /\ (leafN n z = true -> wtF (cntB n z) (foldsW n k w).ks = wtF (cntB n z) w.ks)
 | 0,w,h => ⟨h,fun z => ⟨Nat.le_refl _,fun _ => rfl⟩⟩
 | k + 1,w,h => by
  obtain ⟨h1,v,hv,h2⟩ := next_A hG h
  obtain ⟨h3,h4⟩ := folds_cnt hG k h1
  refine ⟨h3,fun z => ?_⟩
  obtain ⟨h5,h6⟩ := h4 z
  have h7 := h2 z (by omega)
  show wtF _ (foldsW n k (nextW n w).1).ks <= _ /\ _
  refine ⟨by omega,fun hl => ?_⟩
  show wtF _ (foldsW n k (nextW n w).1).ks = _
  rw [h6 hl]
  have : v ≠ (z : Int) := by
   rintro rfl
   simp only [leafN,List.any_cons,List.any_nil,Bool.or_false,Bool.or_eq_true,beq_iff_eq] at hl
   omega
  rw [here_ne this] at h7
  omega
theorem res_cnt {n : Nt} (z : Int) (w : Wb) : cntB n z (resW w) = wtF (cntB n z) w.ks := by
 have hw : cntB n z (.mk 9 0 0 w.ks w.ls) = wtF (cntB n z) w.ks := by
  rw [cnt_mk,nodeL,if_neg (by decide),if_neg (by decide)]; simp
 unfold resW
 split
 ·rename_i h
  rw [h,cnt_empty]; rfl
 ·rename_i b h
  split
  ·rw [h]; simp [wtF]
  ·exact hw
 ·exact hw
theorem leaf_in {n : Nt} {z : Int} (h : leafN n z = true) : ∃ i : Nat,z = i /\ i < n.nodes.length /\ goneN n i = false := by
 simp only [leafN,List.any_cons,List.any_nil,Bool.or_false,Bool.or_eq_true,beq_iff_eq] at h
 by_cases h0 : z < 0
 ·rw [kindN,if_pos h0] at h
  omega
 obtain ⟨i,rfl⟩ : ∃ i : Nat,z = i := ⟨z.toNat,by omega⟩
 have hi : i < n.nodes.length := by
  rcases Nat.lt_or_ge i n.nodes.length with hlt | hge
  ·exact hlt
  ·rw [kindN,if_neg h0] at h
   simp [hge] at h
 refine ⟨i,rfl,hi,?_⟩
 rw [<- Bool.not_eq_true]
 intro hg
 have := (gone_iff hi).1 hg
 omega
theorem fold_facts {n : Nt} (h : OkN n) : InvA n (foldsW n 100 (beginW n)) /\ (∀ z : Nat,cntB n z (foldN n) <= 1) /\ ∀ z : Nat,leafN n z = true -> cntB n z (foldN n) = 1 := by
 obtain ⟨h1,h2⟩ := folds_cnt (ok_gates h) 100 (begin_A h)
 refine ⟨h1,fun z => ?_,fun z hz => ?_⟩
 ·rw [foldN,res_cnt]
  have := (h2 z).1
  rw [begin_cnt] at this
  split at this <;> omega
 ·rw [foldN,res_cnt,(h2 z).2 hz,begin_cnt]
  obtain ⟨i,e,hi,hg⟩ := leaf_in hz
  obtain rfl : i = z := by omega
  rw [if_pos ⟨hi,hg⟩]
theorem empty_long : longB emptyB = false := by
 have h1 := empty_deep
 have h2 := size_sz emptyB
 simp only [longB,Bool.or_eq_false_iff,decide_eq_false_iff_not]
 rw [show szB emptyB = 1 from rfl] at h2
 omega
theorem res_block {n : Nt} {w : Wb} (h : InvL n w) : nestB n (resW w) = true /\ longB (resW w) = false /\ kB (resW w) ≠ 10 := by
 have hweb : w.ks ≠ [] -> nestB n (.mk 9 0 0 w.ks w.ls) = true /\ longB (.mk 9 0 0 w.ks w.ls) = false /\ kB (.mk 9 0 0 w.ks w.ls) ≠ 10 := fun hk => ⟨web_nest h hk,web_long h,by show (9 : Int) ≠ 10; decide⟩
 unfold resW
 split
 ·exact ⟨empty_nest n,empty_long,by decide⟩
 ·rename_i b hb
  have hk : w.ks ≠ [] := by rw [hb]; simp
  split
  ·have hm : b ∈ w.ks := by rw [hb]; exact mcs
   refine ⟨h.nest b hm,?_,by rw [kB_kd]; exact (kid_kd h.inv hm).2.2⟩
   have h1 := h.dep b hm
   have h2 := h.inv.size
   have h3 := size_sz b
   have h4 : sizeW w.ks = szB b := by rw [hb]; simp [sizeW,szB.szBs]
   simp only [longB,Bool.or_eq_false_iff,decide_eq_false_iff_not]
   omega
  ·exact hweb hk
 ·rename_i h1 _
  exact hweb h1
theorem fold_nodup {n : Nt} (h : OkN n) : nestB n (foldN n) = true /\ longB (foldN n) = false /\ kB (foldN n) ≠ 10 /\ (∀ z ∈ nodesB n (foldN n),0 <= z /\ z < n.nodes.length) /\ (nodesB n (foldN n)).Nodup := by
 obtain ⟨h1,h2,h3⟩ := fold_facts h
 obtain ⟨h4,h5,h6⟩ := res_block h1.L
 have hin := nodes_in (ok_ends h) (foldN n) h4
 refine ⟨h4,h5,h6,hin,List.nodup_iff_count.2 fun z => ?_⟩
 rcases Nat.eq_zero_or_pos ((nodesB n (foldN n)).count z) with h0 | h0
 ·omega
 ·obtain ⟨i,rfl⟩ : ∃ i : Nat,z = i := ⟨z.toNat,by have := hin z (List.count_pos_iff.1 h0); omega⟩
  have := h2 i
  rw [cntB] at this
  exact this
theorem fold_chk {n : Nt} (h : OkN n) : chkB true n (foldN n) = 0 := by
 obtain ⟨h1,h2,_,_,h3⟩ := fold_nodup h
 exact chk0.2 ⟨rfl,h2,h1,h3⟩
theorem up_eq : ∀ {xs ys : List Int},xs.Pairwise (· < ·) -> ys.Pairwise (· < ·) -> (∀ z,z ∈ xs ↔ z ∈ ys) -> xs = ys
 | [],[],_,_,_ => rfl
 | [],y :: ys,_,_,h => by have := (h y).2 mcs; cases this
 | x :: xs,[],_,_,h => by have := (h x).1 mcs; cases this
 | x :: xs,y :: ys,hx,hy,h => by
  rw [List.pairwise_cons] at hx hy
  have e : x = y := by
   have h1 := (h x).1 mcs
   have h2 := (h y).2 mcs
   rcases List.mem_cons.1 h1 with h1 | h1
   ·exact h1
   rcases List.mem_cons.1 h2 with h2 | h2
   ·exact h2.symm
   have := hx.1 y h2
   have := hy.1 x h1
   omega
  subst e
  rw [up_eq hx.2 hy.2 fun z => ?_]
  constructor
  ·intro hz
   rcases List.mem_cons.1 ((h z).1 (mcm _ hz)) with e | e
   ·have := hx.1 z hz; omega
   ·exact e
  ·intro hz
   rcases List.mem_cons.1 ((h z).2 (mcm _ hz)) with e | e
   ·have := hy.1 z hz; omega
   ·exact e
theorem fold_lv {n : Nt} (h : OkN n) : lvL n (foldN n) = (natI n.nodes.length).filter (leafN n) := by
 obtain ⟨_,_,h10,hin,hnd⟩ := fold_nodup h
 obtain ⟨_,_,h3⟩ := fold_facts h
 rw [lvL,if_neg h10]
 have hs := sortI_sorted (nodesB n (foldN n))
 have hn : (sortI (nodesB n (foldN n))).Nodup := (sortI_perm _).nodup_iff.2 hnd
 have hlt : (sortI (nodesB n (foldN n))).Pairwise (· < ·) := (hs.and hn).imp fun ⟨h1,h2⟩ => by omega
 refine up_eq (hlt.filter _) (List.Pairwise.filter _ ?_) fun z => ?_
 ·rw [natI,List.pairwise_map]
  exact List.pairwise_lt_range.imp fun h => by omega
 ·rw [List.mem_filter,List.mem_filter,(sortI_perm _).mem_iff]
  constructor
  ·rintro ⟨h1,h2⟩
   obtain ⟨h5,h6⟩ := hin z h1
   refine ⟨?_,h2⟩
   rw [natI,List.mem_map]
   exact ⟨z.toNat,List.mem_range.2 (by omega),by omega⟩
  ·rintro ⟨h1,h2⟩
   refine ⟨?_,h2⟩
   obtain ⟨h5,h6⟩ := natI_in z h1
   obtain ⟨i,rfl⟩ : ∃ i : Nat,z = i := ⟨z.toNat,by omega⟩
   have := h3 i h2
   rw [cntB] at this
   exact List.count_pos_iff.1 (by omega)
theorem lgs_app : ∀ (xs ys : List Trm) (m d : Int),lgT.lgs m d (xs ++ ys) = if (lgT.lgs m d xs).1 = true then lgT.lgs m d xs else lgT.lgs (lgT.lgs m d xs).2 d ys
 | [],ys,m,d => by rw [List.nil_append,lgT.lgs,if_neg (by simp)]
 | x :: xs,ys,m,d => by
  rw [List.cons_append,lgT.lgs,lgT.lgs]
  by_cases h : (lgT m d x).1 = true
  ·rw [if_pos h,if_pos h,if_pos rfl]
  ·rw [if_neg h,if_neg h,lgs_app xs ys]
theorem nlarge_ev {n : Nt} {N F : D} (h : IsN n N F) (bx : List Box) : ev cfg (.call 7 [Nq N F] bx) = Rq (B (largeN n)) := by
 obtain ⟨o1,o2⟩ := isN_one h
 obtain ⟨nr,fr,hN,hnr,hmax,hF,hfr,hmax2⟩ := h
 have hlen : nr.length = n.nodes.length := hnr.1
 have hflen : fr.length = n.flows.length := hfr.1
 by_cases hb : (decide ((nr.length : Int) > 30) || decide ((fr.length : Int) > 50)) = true
 ·rw [es (large_big hN hF hb),largeN,<- hlen,<- hflen,<- Bool.or_assoc,hb,Bool.true_or]
 have hb' := hb
 simp only [Bool.not_eq_true,Bool.or_eq_false_iff] at hb'
 obtain ⟨c1,c2⟩ := hb'
 have deep1 : ∀ (t : Trm) {op k : Int} {K : D} {m : Int},IsT t op k K -> -1 <= m -> m <= 1000000 -> ∀ c : Box,ev cfg (.call 25 [Tq op k K,P1 bx,I 1] (bx ++ [Nb N F,[I m],c])) = some (.ret (B (lgT m 1 t).1) (some ⟨bx ++ [Nb N F,[I (lgT m 1 t).2],c],bx.length + 1,false⟩)) := fun t op k K m hT h1 h2 c => by
  have := ldeep_ev t (bx := bx ++ [Nb N F,[I m],c]) (l := bx.length + 1) (d := 1) hT h1 h2 (by omega) (by omega) (by simp)
  rw [this]
  simp
 have loop1 : ∀ (xs : List Nd) (i : Nat) (m : Int),n.nodes.drop i = xs -> -1 <= m -> m <= 1000000 -> ev cfg (.loop 7 5 (qs bx (sh7_5 (P0 bx) (P1 bx) (.dat N) (I nr.length) (I i)) [Nb N F,[I m]])) =
   some (if (lgT.lgs m 1 (xs.map (·.t))).1 = true then .loop .ret (qs bx (se7_5 (P0 bx) (B true) (P1 bx)) [Nb N F,[I (lgT.lgs m 1 (xs.map (·.t))).2]]) else .loop (.exit 0) (qs bx (se7_5 (P0 bx) .dead (P1 bx)) [Nb N F,[I (lgT.lgs m 1 (xs.map (·.t))).2]])) := by
  intro xs
  induction xs with
  | nil =>
   intro i m hd h1 h2
   rw [List.map_nil,lgT.lgs,if_neg (by simp)]
   exact es (large_e1 o1 o2 (by rw [hlen]; exact drop_nil hd))
  | cons x xs ih =>
   intro i m hd h1 h2
   obtain ⟨hget,hd',hlt⟩ := drop_cons hd
   obtain ⟨row,hrow,_,_,op,k,K,rfl,hT⟩ := hnr.2 i x hget
   have hr := large_r1 (res := lgT m 1 x.t) hN o2 hrow (by rw [hlen]; exact hlt) (by rw [hlen]; exact hmax) (isT_one hT) (deep1 x.t hT h1 h2)
   rw [List.map_cons,lgT.lgs]
   by_cases hc : (lgT m 1 x.t).1 = true
   ·rw [if_pos hc] at hr
    rw [if_pos hc,if_pos rfl]
    exact es hr
   ·rw [if_neg hc] at hr
    rw [if_neg hc]
    have := lgT_ge x.t m 1
    exact es (hr.trans (ih (i + 1) _ hd' (lgT_lo x.t m 1 hc) (by omega)))
 have loop2 : ∀ (xs : List Fl) (i : Nat) (m : Int),n.flows.drop i = xs -> -1 <= m -> m <= 1000000 -> ev cfg (.loop 7 11 (qs bx (sh7_11 (P1 bx) (.dat F) (I fr.length) (I i)) [Nb N F,[I m]])) =
   some (if (lgT.lgs m 1 (xs.map (·.c))).1 = true then .loop .ret (qs bx (se7_11 (B true)) [Nb N F,[I (lgT.lgs m 1 (xs.map (·.c))).2]]) else .loop (.exit 2) (qs bx (se7_11 .dead) [Nb N F,[I (lgT.lgs m 1 (xs.map (·.c))).2]])) := by
  intro xs
  induction xs with
  | nil =>
   intro i m hd h1 h2
   rw [List.map_nil,lgT.lgs,if_neg (by simp)]
   exact es (large_e2 o1 o2 (by rw [hflen]; exact drop_nil hd))
  | cons x xs ih =>
   intro i m hd h1 h2
   obtain ⟨hget,hd',hlt⟩ := drop_cons hd
   obtain ⟨row,hrow,_,_,op,k,K,rfl,hT⟩ := hfr.2 i x hget
   have hr := large_r2 (res := lgT m 1 x.c) o1 hF hrow (by rw [hflen]; exact hlt) (by rw [hflen]; exact hmax2) (isT_one hT) (deep1 x.c hT h1 h2)
   rw [List.map_cons,lgT.lgs]
   by_cases hc : (lgT m 1 x.c).1 = true
   ·rw [if_pos hc] at hr
    rw [if_pos hc,if_pos rfl]
    exact es hr
   ·rw [if_neg hc] at hr
    rw [if_neg hc]
    have := lgT_ge x.c m 1
    exact es (hr.trans (ih (i + 1) _ hd' (lgT_lo x.c m 1 hc) (by omega)))
 have hl1 := loop1 n.nodes 0 2000 rfl (by omega) (by omega)
 have hl2 : (lgT.lgs 2000 1 (n.nodes.map (·.t))).1 = false -> _ := fun e => loop2 n.flows 0 (lgT.lgs 2000 1 (n.nodes.map (·.t))).2 rfl (lgT_lo.go _ 2000 1 (by omega) (by rw [e]; decide)) (by have := lgT_ge.go (n.nodes.map (·.t)) 2000 1; omega)
 rw [es (large_f hN hF c1 c2 hl1 hl2),largeN,<- hlen,<- hflen,c1,c2,Bool.false_or,Bool.false_or,lgL,termsN,lgs_app]
 congr 3
 split
 ·rename_i hc; rw [hc]; rfl
 ·rename_i hc
  rw [Bool.not_eq_true] at hc
  rw [hc,Bool.false_or]
theorem ints_ev {xs : List (List D)} {zs : List Int} (hz : xs = rowsOf zs) (hl : zs.length <= 1000) {X Y : D} (hX : IsS 1 xs X) (hY : IsS 1 xs Y) (bx : List Box) : ev cfg (.call 21 (Nb X Y) bx) = Rq (B true) := by
 have oX : Oq X := by obtain ⟨_,_,_,h⟩ := hX; exact h
 have oY : Oq Y := by obtain ⟨_,_,_,h⟩ := hY; exact h
 have hlen : xs.length = zs.length := by rw [hz]; simp [rowsOf]
 have loop : ∀ (m i : Nat),i + m = xs.length -> ev cfg (.loop 21 2 (q0 bx (sh21_2 (.dat X) (.dat Y) (I xs.length) (I i)))) = some (.loop (.exit 0) (q0 bx (se21_2 (.dat X) (.dat Y) .dead))) := by
  intro m
  induction m with
  | zero => intro i hi; exact es (ints_end oX oY (by omega))
  | succ m ih =>
   intro i hi
   have hzl : i < zs.length := by omega
   have hg : xs[i]? = some [dI zs[i]] := by rw [hz]; simp [rowsOf,hzl]
   exact es ((ints_r hX hY hg hg (by simp) (by omega) (by omega) (by omega)).trans (ih (i + 1) (by omega)))
 exact es (ints_f hX hY (by simp) (loop xs.length 0 (by omega)))
def fromI (n : Nt) (i : Nat) : List Int := ((List.range i).map fun (j : Nat) => (j : Int)).filter (leafN n)
theorem from_succ {n : Nt} {i : Nat} : fromI n (i + 1) = fromI n i ++ if leafN n i = true then [(i : Int)] else [] := by
 unfold fromI
 rw [List.range_succ,List.map_append,List.filter_append]
 congr 1
 simp only [List.map_cons,List.map_nil,List.filter_cons,List.filter_nil]
theorem rowsOf_app (xs ys : List Int) : rowsOf (xs ++ ys) = rowsOf xs ++ rowsOf ys := by simp [rowsOf]
theorem want_loop {n : Nt} {N F K L X : D} (h : IsN n N F) (hnd : n.nodes.length <= 1000) {nr : List (List D)} (hN : IsS 5 nr N) (hnr : AreR IsNd n.nodes nr) (oK : Oq K) (oL : Oq L) (oX : Oq X) {k nd a : Int} : ∀ (m i : Nat),i + m = nr.length →
  ev cfg (.loop 5 7 ⟨(sh5_7 (.ptr 0 0) (.ptr 1 0) (I 0) (.dat X) (I 0) (mkS 1 (rowsOf (fromI n i))) (.dat N) (I nr.length) (I i)),[Nb N F,Wx k nd a K L],0,none,false⟩) =
   some (.loop (.exit 0) ⟨(se5_7 (.ptr 0 0) (.ptr 1 0) (I 0) (.dat X) (I 0) (mkS 1 (rowsOf (fromI n nr.length)))),[Nb N F,Wx k nd a K L],0,none,false⟩) := by
 obtain ⟨oN,oF⟩ := isN_one h
 have hlen : nr.length = n.nodes.length := hnr.1
 intro m
 induction m with
 | zero =>
  intro i hi
  obtain rfl : i = nr.length := by omega
  cases hr : rowsOf (fromI n nr.length) with
  | nil => exact es (fall_end0 oN oF oK oL oX (Nat.le_refl _))
  | cons r rs => exact es (fall_end1 oN oF oK oL oX (Nat.le_refl _))
 | succ m ih =>
  intro i hi
  have hil : i < n.nodes.length := by omega
  obtain ⟨row,hrow,_,_,op,q,K2,rfl,hT⟩ := hnr.get hil
  have oK2 := isT_one hT
  have ih2 := ih (i + 1) (by omega)
  have hkd : kindN n i = n.nodes[i].k := kind_at hil
  have hfl : (rowsOf (fromI n i)).length <= i := by
   have h1 := List.length_filter_le (leafN n) ((List.range i).map fun (j : Nat) => (j : Int))
   simp only [rowsOf,List.length_map,fromI] at h1 ⊢
   simpa using h1
  rw [from_succ] at ih2
  cases hlf : leafN n i with
  | false =>
   rw [hlf,if_neg (by decide),List.append_nil] at ih2
   simp only [leafN,List.any_cons,List.any_nil,Bool.or_false,Bool.or_eq_false_iff,hkd] at hlf
   cases hr : rowsOf (fromI n i) with
   | nil =>
    rw [hr] at ih2
    exact es ((fall_skip0 hN oF oK oL oX hrow oK2 (by omega) (by omega) hlf.1 hlf.2.1 hlf.2.2).trans ih2)
   | cons r rs =>
    rw [hr] at ih2
    exact es ((fall_skip1 hN oF oK oL oX hrow oK2 (by omega) (by omega) hlf.1 hlf.2.1 hlf.2.2).trans ih2)
  | true =>
   rw [hlf,if_pos rfl,rowsOf_app] at ih2
   simp only [leafN,List.any_cons,List.any_nil,Bool.or_false,Bool.or_eq_true,beq_iff_eq,hkd] at hlf
   cases hr : rowsOf (fromI n i) with
   | nil =>
    rw [hr] at ih2
    exact es ((fall_put0 hN oF oK oL oX hrow oK2 (by omega) (by omega) hlf).trans ih2)
   | cons r rs =>
    rw [hr] at ih2 hfl
    exact es ((fall_put1 hN oF oK oL oX hrow oK2 (by omega) (by omega) hlf (by omega)).trans ih2)
theorem pB_is {b : Blk} (h : isB' b) : ∃ k nd a K L,pB b = Wq k nd a K L /\ IsB b k nd a K L := by
 obtain ⟨k,nd,a,ks,ls⟩ := b
 exact ⟨k,nd,a,_,_,rfl,h⟩
theorem res_is {n : Nt} {w : Wb} (hn : n.flows.length <= 100) (hw : InvW n w) : isB' (resW w) /\ okB (resW w) := by
 have hweb : isB' (.mk 9 0 0 w.ks w.ls) /\ okB (.mk 9 0 0 w.ks w.ls) := ⟨web_is hn hw,web_ok hw⟩
 unfold resW
 split
 ·exact ⟨okK_is _ emptyB_ok (by decide),okK_ok _ emptyB_ok (by decide)⟩
 ·rename_i b hq
  split
  ·have hb := web_kids hw b (by rw [hq]; exact mcs)
   exact ⟨okK_is b hb.1 (by omega),okK_ok b hb.1 (by omega)⟩
  ·exact hweb
 ·exact hweb
theorem fall_go {N F K L X : D} {n : Nt} {k nd a q : Int} {rows : List (List D)} (h : IsN n N F) (q1 : n.nodes.length <= 30) (hlg : Cq 7 [Nq N F] (B false)) (h5 : Cq 18 [Nq N F] (.agg [I 0,I q]))
  (hf : Cq 9 [Nq N F] (.tup [Wq k nd a K L,I 0])) (oK : Oq K) (oL : Oq L) (hle : Cq 20 [Nq N F,Wq k nd a K L] (.tup [.dat X,I 0])) (hX : IsS 1 rows X) (hrows : rows = rowsOf ((natI n.nodes.length).filter (leafN n)))
  (hc : Cq 19 [Nq N F,Wq k nd a K L] (I 0)) :
  ev cfg (.call 5 [Nq N F] []) = Rq (B true) := by
 obtain ⟨oN,oF⟩ := isN_one h
 have oX : Oq X := by obtain ⟨_,_,_,h⟩ := hX; exact h
 have hh := h
 obtain ⟨nr,fr,hN,hnr,_⟩ := hh
 have hlen : nr.length = n.nodes.length := hnr.1
 have hlp := want_loop h (by omega) hN hnr oK oL oX (k := k) (nd := nd) (a := a) nr.length 0 (by omega)
 have e0 : fromI n nr.length = (natI n.nodes.length).filter (leafN n) := by rw [hlen]; rfl
 rw [e0] at hlp
 have hzl : ((natI n.nodes.length).filter (leafN n)).length <= 1000 := by
  have := List.length_filter_le (leafN n) (natI n.nodes.length)
  simp only [natI,List.length_map,List.length_range] at this
  simp only [natI]
  omega
 generalize (natI n.nodes.length).filter (leafN n) = zs at *
 subst hrows
 match zs,hlp,hX,hzl with
 | [],hlp,hX,hzl => exact es (fall_f0 hN oF hlg h5 hf oK oL hle oX hlp hc (fun bx => ints_ev rfl hzl hX (isS_nil 1) bx) malt_ev2)
 | z :: zs,hlp,hX,hzl => exact es (fall_f1 hN oF hlg h5 hf oK oL hle oX hlp hc (fun bx => ints_ev rfl hzl hX (isS_sl 1 _) bx) malt_ev2)
theorem foldAll_ev {N F : D} {n : Nt} (h : IsN n N F) : ev cfg (.call 5 [Nq N F] []) = Rq (B true) := by
 obtain ⟨oN,oF⟩ := isN_one h
 have hlg := fun bx : List Box => nlarge_ev h bx
 cases hl : largeN n with
 | true =>
  rw [hl] at hlg
  exact es (fall_big oN oF hlg malt_ev1)
 | false =>
 rw [hl] at hlg
 obtain ⟨q1,q2,q3⟩ := large_size hl
 have hz : ∀ t ∈ termsN n,sizeT t <= 1000000 := fun t ht => by have := q3 t ht; omega
 obtain ⟨r,q,hr,h5⟩ := rncheck_ev h (by omega) (by omega) hz
 by_cases hr0 : r = 0
 case neg => exact es (fall_bad oN oF hlg h5 (by simpa using hr0) malt_ev1)
 subst hr0
 have hok := hr.1 rfl
 have hf := fun bx : List Box => (fold_ev h (by omega) (by omega) hz bx).1 hok
 obtain ⟨hI,_,_⟩ := fold_facts hok
 have hres := res_is (n := n) (by omega) hI.L.inv
 have hchk := fold_chk hok
 have hlv := fold_lv hok
 obtain ⟨_,hlong,_,_,_⟩ := fold_nodup hok
 rw [show resW (foldsW n 100 (beginW n)) = foldN n from rfl] at hres
 generalize foldN n = b at *
 obtain ⟨his,hokb⟩ := hres
 obtain ⟨k,nd,a,K,L,hp,hB⟩ := pB_is his
 rw [hp] at hf
 obtain ⟨oK,oL⟩ := isB_one hB
 have hsz : sizeB b <= 1000 := by
  simp only [longB,Bool.or_eq_false_iff,decide_eq_false_iff_not] at hlong
  omega
 have hc := fun bx : List Box => bcheck_ev h (by omega) (by omega) hz true (by simp [hok]) b hB hsz (okB_okL b hokb) bx
 rw [hchk] at hc
 obtain ⟨X,rows,hX,hrows,hle⟩ := leaves_ev h (by omega) (by omega) hz true (by simp [hok]) b hB hsz (okB_okL b hokb)
 rw [hchk] at hle
 have hrows := hrows hchk
 rw [hlv] at hrows
 exact fall_go h q1 hlg h5 hf oK oL hle hX hrows hc
open Go.ChangeShapes Go.WideShapes Go.ChangeAt Go.WideElems Go.RowKit
set_option maxRecDepth 100000
theorem foldAll_lifted (os : Os) (started : os.Started) (H : Type) (enc : TypeId × Value -> H) :
  ReturnsInHanded {} Tryz.checked os 5 .any (fun w args => (Rows.foldAllSpec.pre enc Tryz.prog Tryz.f5 [] false w args /\ laidMetH Tryz.prog laidNames w) /\ sizedMet enc Tryz.prog Tryz.f5 (OpenSpec.ofChange Rows.foldAllSpec) false w args)
   (Rows.foldAllSpec.post enc Tryz.prog Tryz.f5 false true false false) := by
 refine returnsInHanded_of_change_and (C := Tryz.checked) (X := fun w _ => laidMetH Tryz.prog laidNames w) (fun _ _ _ hh h => h.of_heap hh) own started (by kernel_rfl) Tryz.func5
  (ChangeSpec.witness_shaped (enc := enc) (C := Tryz.checked) (os := os) (X := fun w _ => laidMetH Tryz.prog laidNames w) false (World.doorLaid Tryz.prog 400 os) #[.agg #[.slice none 0 0,.slice none 0 0]] 8 rfl (World.shaped_of_RefB (by kernel_rfl) (by kernel_rfl)) (by kernel_rfl) (by kernel_rfl) (by kernel_rfl) (door_met os _)) ?_
 intro W base args ds gs before hval0 hW _ _ hL _
 have hval : ∀ (j : Nat) t v,Tryz.f5.params[j]? = some t -> args[j]? = some v -> Value.okWide Tryz.prog W .any base t v := hval0
 have hW' := hW
 obtain ⟨p,q,hA0,hV,rfl,hfz,hnd⟩ := hW
 have hA : DataW.TrodAll enc Tryz.prog W 0 (fun _ => true) true Tryz.f5.params.toList args.toList ds p := hA0
 rw [Tryz.params5] at hA hval
 obtain ⟨v0,d0,rfl,rfl,h0⟩ := trodAll_one hA
 obtain ⟨rfl,rfl⟩ := trodVars_none hV
 obtain ⟨cs0,rfl,hcs0⟩ := okWide_struct Tryz.underlying25 (hval 0 25 v0 rfl rfl)
 obtain ⟨fuel0,hf0⟩ := h0
 obtain ⟨D0,hfit0,hrel0⟩ := trod_fit ti_ok fitT_ok fuel0 25 cs0.toList _ (by decide) hf0
 obtain ⟨b0,N0,F0,rfl,hB0⟩ := (fit_q hfit0).net rfl
 have hg := glob_ok hL
 clear hA0 hval0
 simp only [List.append_nil] at hW'
 refine (top_sound cfg_ok (foldAll_ev hB0) hg (us := [.agg cs0]) rfl (fun j c u hc hu => ?_)).mono fun e W' he => ?_
 ·match j,hc,hu with
  | 0,hc,hu =>
   simp only [List.getElem?_cons_succ,List.getElem?_cons_zero,sjE] at hc hu
   subst hc; subst hu
   exact relA_agg hrel0
  | j + 1,hc,hu => simp at hc
 ·cases e with
  | returned u =>
   obtain ⟨rfl,hb⟩ := he
   refine ⟨_,rfl,post_below (pa := p) (pv := []) hW' (fun _ _ _ => trodAll_mk1 (shut_bool Tryz.underlying4 _)) (fun sp hsp => ?_) (fun _ _ => rfl) (by simp) hb (ok_one (by kernel_rfl) rfl (okWide_bool_mk Tryz.underlying4 _))⟩
   have hlt : ∀ x ∈ p,x.block < W.heap.size := fun x hx => hW'.lt x (by simpa using hx)
   have hsp' : ∀ x ∈ p,sp x.block = true := fun x hx => hsp x (by simpa using hx)
   exact trodAll_mk1 (WideElems.Trod_stays laidOut (by kernel_rfl) (by decide +kernel) ⟨fuel0,hf0⟩ (fun x hx => hb.same (hlt x hx)) (fun x hx => hsp' x hx))
  | panicked => exact he.elim
  | outgrown => exact he.elim
theorem foldAll_holds : Rows.FoldAllSaid :=
 OpenClaim.holds_of_wide 5 Tryz.f5 rfl rfl rfl rfl rfl rfl rfl ⟨rfl,rfl,rfl,rfl,rfl⟩ rfl rfl rfl rfl rfl (by kernel_rfl) Tryz.func5 (by kernel_rfl)
  (of_decide_eq_true (by kernel_rfl)) (by unfold Func.isWrapper; first | (rw [if_pos (by decide +kernel)]; kernel_rfl) | (rw [if_neg (by decide +kernel)]; exact ⟨rfl,rfl⟩))
  (fun os started H enc _ => foldAll_lifted os started H enc)
theorem foldAll_card : Rows.FoldAllCardSaid :=
 Claim7.holds_tied_plain_at .later [] [.widerDeep, .data] true (true, "9d75f9c0ebd5a2f332765d340f49f917db3049bf4453aebe46905d788bb2aee2") false
  foldAll_holds (fun _ h => by cases h) (by kernel_rfl) (fun _ h => by cases h) foldAll_row_tie rfl ⟨rfl,rfl⟩ (by kernel_rfl) rfl
  (fun f fn hf hfn => by
   obtain rfl : f = 5 := sij ((show Tryz.prog.funcNamed "treenail/treenaillaw11.FoldAll" = some 5 by kernel_rfl).symm.trans hf) |>.symm
   obtain rfl : fn = Tryz.f5 := (sij (Tryz.func5.symm.trans hfn)).symm
   exact ⟨by kernel_rfl,fun j t ht => by
    rw [Tryz.params5] at ht
    have hm : t ∈ [25] := by simpa using Array.mem_of_getElem? ht
    have hall : ([25].all fun u => !Tryz.prog.wantsStandIn u) = true := by kernel_rfl
    exact (show Tryz.prog.wantsStandIn t = false by simpa using List.all_eq_true.1 hall t hm)⟩)
  (by kernel_rfl)
#print axioms foldAll_card
end Go.Proofs.YtifckjhggamefaaGreatDoor
