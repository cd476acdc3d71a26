/- Webs and their folds, in plain lists: each fold keeps a web. No condition. -/
import Derived.Test.YtifckjhggamefaaGreatDoorHl
set_option linter.unusedSimpArgs false
set_option linter.unusedVariables false
set_option linter.unusedSectionVars false
namespace Go.Proofs.YtifckjhggamefaaGreatDoor
open Go Go.Vx
abbrev Lk := Int × Int × Int
def Blk.kd : Blk -> Int
 | .mk k _ _ _ _ => k
def Blk.nd : Blk -> Int
 | .mk _ n _ _ _ => n
structure Wb where
 ks : List Blk
 ls : List Lk
def kidW (ks : List Blk) (i : Int) : Option Blk := if i < 0 then none else ks[i.toNat]?
def gateW (ks : List Blk) (i : Int) : Bool := match kidW ks i with
 | some b => b.kd == 8
 | none => false
def nodeW (ks : List Blk) (i : Int) : Int := match kidW ks i with
 | some b => b.nd
 | none => 0
def insW (ls : List Lk) (i : Int) : List Nat := idxs (fun l => l.2.1 == i) 0 ls
def outsW (ls : List Lk) (i : Int) : List Nat := idxs (fun l => l.1 == i) 0 ls
def lkW (ls : List Lk) (k : Nat) : Lk := ls.getD k (-1,-1,0)
def toW (ls : List Lk) (k : Nat) : Int := (lkW ls k).2.1
def hd (l : List Nat) : Nat := l.headD 0
structure Wz where
 to : Int
 by_ : Int
 last : Nat
def followW (w : Wb) (k : Nat) : Wz :=
 if (decide (toW w.ls k < 0) || gateW w.ks (toW w.ls k)) = true then ⟨toW w.ls k,-1,k⟩
 else ⟨toW w.ls (hd (outsW w.ls (toW w.ls k))),toW w.ls k,hd (outsW w.ls (toW w.ls k))⟩
def emptyB : Blk := .mk 1 0 0 [] []
def partW (w : Wb) (x : Wz) : Blk := (kidW w.ks x.by_).getD emptyB
def partsB : Blk -> List Blk
 | .mk k n a ks ls => if k = 3 then ks else if k = 1 then [] else [.mk k n a ks ls]
def rowB : List Blk -> Blk
 | [] => emptyB
 | [b] => b
 | l => .mk 3 0 0 l []
def dropK (gone : Nat -> Bool) : Nat -> List Blk -> List Blk
 | _,[] => []
 | i,b :: bs => if gone i = true then dropK gone (i + 1) bs else b :: dropK gone (i + 1) bs
def rank (gone : Nat -> Bool) : Nat -> Nat
 | 0 => 0
 | i + 1 => if gone i = true then rank gone i else rank gone i + 1
def renum (gone : Nat -> Bool) (x : Int) : Int := if x < 0 then x else (rank gone x.toNat : Int)
def dropL (gone cut : Nat -> Bool) : Nat -> List Lk -> List Lk
 | _,[] => []
 | i,l :: ls => if cut i = true then dropL gone cut (i + 1) ls else (renum gone l.1,renum gone l.2.1,l.2.2) :: dropL gone cut (i + 1) ls
def inL (l : List Int) (i : Nat) : Bool := l.contains (i : Int)
def dropW (w : Wb) (gone : List Int) (cut : List Nat) : Wb := ⟨dropK (inL gone) 0 w.ks,dropL (inL gone) cut.contains 0 w.ls⟩
def setFrom (ls : List Lk) (k : Nat) (a : Int) : List Lk := ls.set k (a,(lkW ls k).2)
section
variable (n : Nt) (w : Wb)
def gkW (i : Int) : Int := if gateW w.ks i = true then kindN n (nodeW w.ks i) else 0
def oneAt (a : Nat) : Option Wb :=
 if gateW w.ks a = true then none else
  let o := hd (outsW w.ls a)
  let b := toW w.ls o
  if (decide (b < 0) || (b == (a : Int) || gateW w.ks b)) = true then none
  else some (dropW ⟨w.ks.set a (rowB (partsB ((kidW w.ks a).getD emptyB) ++ partsB ((kidW w.ks b).getD emptyB))),setFrom w.ls (hd (outsW w.ls b)) a⟩ [b] [o])
def waysW (s : Nat) : List Wz := (outsW w.ls s).map (followW w)
def joinOf (k : Int) : Int := if k = 6 then 6 else 5
def flowTo (k : Nat) : Int := match n.flows[(lkW w.ls k).2.2.toNat]? with
 | some f => f.to
 | none => 0
def awaitK (k : Nat) : Bool := match partsB (partW w (followW w k)) with
 | [] => false
 | b :: _ => b.kd == 2 && b.nd == flowTo n w k
def closeAt (s : Nat) : Option Int :=
 let k := gkW n w s
 let l := waysW w s
 let j := (followW w (hd (outsW w.ls s))).to
 if (k == 0 || decide (l.length < 2) || (decide (j < 0) || j == (s : Int) || gkW n w j != joinOf k || (outsW w.ls j).length != 1 || (insW w.ls j).length != l.length)) = true then none
 else if (l.all (fun x => x.to == j) && (k != 7 || (outsW w.ls s).all (awaitK n w))) = true then some j else none
def blockOf (k : Int) : Int := if k = 5 then 5 else if k = 6 then 4 else 6
def pieceW (k : Int) (x : Wz) : Blk := if k = 7 then rowB ((partsB (partW w x)).drop 1) else partW w x
def twoAt (s : Nat) : Option Wb :=
 match closeAt n w s with
 | none => none
 | some j =>
  let k := gkW n w s
  let l := waysW w s
  some (dropW ⟨w.ks.set s (.mk (blockOf k) (nodeW w.ks s) 0 (l.map (pieceW w k)) []),setFrom w.ls (hd (outsW w.ls j)) s⟩ (j :: (l.map (·.by_)).filter (fun x => decide (0 <= x))) (outsW w.ls s ++ l.map (·.last)))
def threeAt (j : Nat) : Option Wb :=
 if (gkW n w j != 5 || (insW w.ls j).length != 2 || (outsW w.ls j).length != 1) = true then none else
  let d := followW w (hd (outsW w.ls j))
  if (gkW n w d.to != 5 || (outsW w.ls d.to).length != 2) = true then none else
   let o := outsW w.ls d.to
   let a := followW w (o.getD 0 0)
   let b := followW w (o.getD 1 0)
   if (a.to == (j : Int)) = (b.to == (j : Int)) then none else
    let lv : Nat := if (b.to == (j : Int)) = true then 0 else 1
    let g := if (b.to == (j : Int)) = true then b else a
    some (dropW ⟨w.ks.set j (.mk 7 (nodeW w.ks d.to) lv [partW w d,partW w g] []),setFrom w.ls (o.getD lv 0) j⟩ ([d.to] ++ ([d.by_,g.by_].filter (fun x => decide (0 <= x)))) [hd (outsW w.ls j),d.last,o.getD (1 - lv) 0,g.last])
end
def firstAt (f : Nat -> Option Wb) : Nat -> Nat -> Option Wb
 | _,0 => none
 | i,m + 1 => match f i with
  | some x => some x
  | none => firstAt f (i + 1) m
def nextW (n : Nt) (w : Wb) : Wb × Int :=
 match firstAt (oneAt w) 0 w.ks.length with
 | some x => (x,1)
 | none => match firstAt (twoAt n w) 0 w.ks.length with
  | some x => (x,2)
  | none => match firstAt (threeAt n w) 0 w.ks.length with
   | some x => (x,3)
   | none => (w,0)
theorem idxs_nodup {α : Type} (p : α -> Bool) : ∀ (xs : List α) (k : Nat),(idxs p k xs).Nodup
 | [],k => List.nodup_nil
 | x :: xs,k => by
  rw [idxs]
  split
  ·refine List.nodup_cons.2 ⟨fun h => ?_,idxs_nodup p xs (k + 1)⟩
   have := ((mem_idxs p xs (k + 1) k).1 h).1
   omega
  ·exact idxs_nodup p xs (k + 1)
theorem nodup_filter {α : Type} (p : α -> Bool) : ∀ {l : List α},l.Nodup -> (l.filter p).Nodup
 | [],_ => List.nodup_nil
 | x :: xs,h => by
  rw [List.filter_cons]
  obtain ⟨h1,h2⟩ := List.nodup_cons.1 h
  split
  ·exact List.nodup_cons.2 ⟨fun hm => h1 (List.mem_filter.1 hm).1,nodup_filter p h2⟩
  ·exact nodup_filter p h2
theorem same_len {α : Type} {l1 l2 : List α} (h1 : l1.Nodup) (h2 : l2.Nodup) (h : ∀ a,a ∈ l1 ↔ a ∈ l2) : l1.length = l2.length :=
 ((List.perm_ext_iff_of_nodup h1 h2).2 h).length_eq
theorem one_len {α : Type} {l : List α} {c : α} (h1 : l.Nodup) (h : ∀ a,a ∈ l ↔ a = c) : l.length = 1 :=
 same_len (l2 := [c]) h1 (by simp) (by simpa using h)
theorem mem_outs {ls : List Lk} {i : Int} {k : Nat} : k ∈ outsW ls i ↔ ∃ l,ls[k]? = some l /\ l.1 = i := by
 rw [outsW,mem_idxs]; simp
theorem mem_ins {ls : List Lk} {i : Int} {k : Nat} : k ∈ insW ls i ↔ ∃ l,ls[k]? = some l /\ l.2.1 = i := by
 rw [insW,mem_idxs]; simp
theorem outs_nodup (ls : List Lk) (i : Int) : (outsW ls i).Nodup := idxs_nodup ..
theorem ins_nodup (ls : List Lk) (i : Int) : (insW ls i).Nodup := idxs_nodup ..
theorem hd_mem {l : List Nat} (h : 0 < l.length) : hd l ∈ l := by
 cases l with
 | nil => simp at h
 | cons a l => simp [hd]
theorem hd_one {l : List Nat} (h : l.length = 1) : l = [hd l] := by
 match l,h with
 | [a],_ => rfl
theorem lk_get {ls : List Lk} {k : Nat} {l : Lk} (h : ls[k]? = some l) : lkW ls k = l := by simp [lkW,List.getD,h]
theorem rank_mono {gone : Nat -> Bool} {i j : Nat} (h : i <= j) : rank gone i <= rank gone j := by
 induction h with
 | refl => exact Nat.le_refl _
 | step _ ih => rw [rank]; split <;> omega
theorem rank_succ {gone : Nat -> Bool} {i : Nat} (h : gone i = false) : rank gone (i + 1) = rank gone i + 1 := by
 rw [rank,if_neg (by simp [h])]
theorem rank_gone {gone : Nat -> Bool} {i : Nat} (h : gone i = true) : rank gone (i + 1) = rank gone i := by
 rw [rank,if_pos h]
theorem rank_inj {gone : Nat -> Bool} {i j : Nat} (hi : gone i = false) (hj : gone j = false) (h : rank gone i = rank gone j) : i = j := by
 rcases Nat.lt_trichotomy i j with hl | hl | hl
 ·have := rank_succ hi; have := rank_mono (gone := gone) (show i + 1 <= j from hl); omega
 ·exact hl
 ·have := rank_succ hj; have := rank_mono (gone := gone) (show j + 1 <= i from hl); omega
theorem dropK_get {gone : Nat -> Bool} : ∀ {bs : List Blk} {i j : Nat} {b : Blk},(dropK gone i bs)[j]? = some b -> ∃ x,i <= x /\ bs[x - i]? = some b /\ gone x = false /\ rank gone x = rank gone i + j
 | [],i,j,b,h => by simp [dropK] at h
 | c :: bs,i,j,b,h => by
  rw [dropK] at h
  split at h
  ·rename_i hg
   obtain ⟨x,h1,h2,h3,h4⟩ := dropK_get h
   exact ⟨x,by omega,by rw [show x - i = (x - (i + 1)) + 1 by omega]; simpa using h2,h3,by rw [h4,rank_gone hg]⟩
  ·rename_i hg
   have hg' : gone i = false := by simpa using hg
   cases j with
   | zero =>
    simp at h; subst h
    exact ⟨i,Nat.le_refl _,by simp,hg',by omega⟩
   | succ j =>
    obtain ⟨x,h1,h2,h3,h4⟩ := dropK_get (by simpa using h)
    exact ⟨x,by omega,by rw [show x - i = (x - (i + 1)) + 1 by omega]; simpa using h2,h3,by rw [h4,rank_succ hg']; omega⟩
theorem dropK_put {gone : Nat -> Bool} : ∀ {bs : List Blk} {i x : Nat} {b : Blk},i <= x -> bs[x - i]? = some b -> gone x = false -> (dropK gone i bs)[rank gone x - rank gone i]? = some b
 | [],i,x,b,_,h,_ => by simp at h
 | c :: bs,i,x,b,hx,h,hg => by
  rw [dropK]
  by_cases e : x = i
  ·subst e
   rw [Nat.sub_self] at h
   simp only [List.getElem?_cons_zero,sjE] at h
   subst h
   rw [if_neg (by simp [hg]),Nat.sub_self]; rfl
  ·have h' : bs[x - (i + 1)]? = some b := by rw [show x - i = (x - (i + 1)) + 1 by omega] at h; simpa using h
   have ih := dropK_put (i := i + 1) (by omega) h' hg
   have hm := rank_mono (gone := gone) (show i + 1 <= x by omega)
   split
   ·rename_i hi
    rw [rank_gone hi] at ih; exact ih
   ·rename_i hi
    have hi' : gone i = false := by simpa using hi
    rw [rank_succ hi'] at ih hm
    rw [show rank gone x - rank gone i = (rank gone x - (rank gone i + 1)) + 1 by omega]
    simpa using ih
theorem dropK_len {gone : Nat -> Bool} : ∀ {bs : List Blk} {i : Nat},(dropK gone i bs).length + rank gone i = rank gone (i + bs.length)
 | [],i => by simp [dropK]
 | c :: bs,i => by
  rw [dropK]
  have ih := dropK_len (gone := gone) (bs := bs) (i := i + 1)
  rw [List.length_cons,show i + (bs.length + 1) = i + 1 + bs.length by omega]
  split
  ·rename_i hi; rw [<- ih,rank_gone hi]
  ·rename_i hi
   rw [<- ih,rank_succ (by simpa using hi),List.length_cons]; omega
theorem dropL_mem {gone cut : Nat -> Bool} : ∀ {ls : List Lk} {i : Nat} {l : Lk},l ∈ dropL gone cut i ls -> ∃ k l',ls[k]? = some l' /\ cut (i + k) = false /\ l = (renum gone l'.1,renum gone l'.2.1,l'.2.2)
 | [],i,l,h => by simp [dropL] at h
 | c :: ls,i,l,h => by
  rw [dropL] at h
  split at h
  ·obtain ⟨k,l',h1,h2,h3⟩ := dropL_mem h
   exact ⟨k + 1,l',by simpa using h1,by rw [show i + (k + 1) = i + 1 + k by omega]; exact h2,h3⟩
  ·rename_i hc
   rcases List.mem_cons.1 h with rfl | h
   ·exact ⟨0,c,rfl,by simpa using hc,rfl⟩
   ·obtain ⟨k,l',h1,h2,h3⟩ := dropL_mem h
    exact ⟨k + 1,l',by simpa using h1,by rw [show i + (k + 1) = i + 1 + k by omega]; exact h2,h3⟩
theorem dropL_len {gone cut : Nat -> Bool} : ∀ {ls : List Lk} {i : Nat},(dropL gone cut i ls).length + ((List.range' i ls.length).filter cut).length = ls.length
 | [],i => by simp [dropL]
 | c :: ls,i => by
  rw [dropL]
  have ih := dropL_len (gone := gone) (cut := cut) (ls := ls) (i := i + 1)
  rw [List.length_cons,List.range'_succ,List.filter_cons]
  split <;> rename_i h
  ·simp; omega
  ·simp; omega
theorem dropL_cnt {gone cut : Nat -> Bool} (p p' : Lk -> Bool) : ∀ {ls : List Lk} {i c : Nat},(∀ k l,ls[k]? = some l -> cut (i + k) = false -> p' (renum gone l.1,renum gone l.2.1,l.2.2) = p l) →
  (idxs p' c (dropL gone cut i ls)).length = ((idxs p i ls).filter fun k => !cut k).length
 | [],i,c,_ => by simp [dropL,idxs]
 | x :: ls,i,c,h => by
  have hr : ∀ k l,ls[k]? = some l -> cut (i + 1 + k) = false -> p' (renum gone l.1,renum gone l.2.1,l.2.2) = p l := fun k l hk hc => h (k + 1) l (by simpa using hk) (by rw [show i + (k + 1) = i + 1 + k by omega]; exact hc)
  rw [dropL,idxs]
  by_cases hc : cut i = true
  ·rw [if_pos hc,dropL_cnt p p' hr]
   split
   ·rw [List.filter_cons,if_neg (by simp [hc])]
   ·rfl
  ·rw [if_neg hc,idxs]
   have e := h 0 x rfl (by simpa using hc)
   rw [e]
   split
   ·rw [List.filter_cons,if_pos (by simp [hc]),List.length_cons,List.length_cons,dropL_cnt p p' hr]
   ·exact dropL_cnt p p' hr
theorem renum_neg {gone : Nat -> Bool} {x : Int} (h : x < 0) : renum gone x = x := if_pos h
theorem renum_nat {gone : Nat -> Bool} (x : Nat) : renum gone (x : Int) = rank gone x := by
 rw [renum,if_neg (by omega)]; simp
theorem renum_eq {gone : Nat -> Bool} {x : Int} {y : Nat} (hx : 0 <= x -> gone x.toNat = false) (hy : gone y = false) : (renum gone x == (rank gone y : Int)) = (x == (y : Int)) := by
 by_cases h : x < 0
 ·rw [renum_neg h]
  have e1 : (x == (rank gone y : Int)) = false := beq_eq_false_iff_ne.2 (by omega)
  have e2 : (x == (y : Int)) = false := beq_eq_false_iff_ne.2 (by omega)
  rw [e1,e2]
 ·obtain ⟨z,rfl⟩ : ∃ z : Nat,x = z := ⟨x.toNat,by omega⟩
  rw [renum_nat]
  have hz := hx (by omega)
  simp only [tnc] at hz
  by_cases e : z = y
  ·subst e; simp
  ·have e1 : ((rank gone z : Int) == (rank gone y : Int)) = false := beq_eq_false_iff_ne.2 fun h' => e (rank_inj hz hy (by omega))
   have e2 : ((z : Int) == (y : Int)) = false := beq_eq_false_iff_ne.2 (by omega)
   rw [e1,e2]
def kidsB : Blk -> List Blk
 | .mk _ _ _ ks _ => ks
def okK : Blk -> Prop
 | .mk k n a ks ls => (0 <= k /\ k <= 10) /\ (0 <= n /\ n <= 30) /\ (0 <= a /\ a <= 1) /\ ls = [] /\ okKs ks
where
 okKs : List Blk -> Prop
 | [] => True
 | b :: bs => okK b /\ okKs bs
def szB : Blk -> Nat
 | .mk _ _ _ ks _ => 1 + szBs ks
where
 szBs : List Blk -> Nat
 | [] => 0
 | b :: bs => szB b + szBs bs
theorem okKs_iff : ∀ {bs : List Blk},okK.okKs bs ↔ ∀ b ∈ bs,okK b
 | [] => by simp [okK.okKs]
 | b :: bs => by rw [okK.okKs,okKs_iff (bs := bs)]; simp
theorem szBs_app : ∀ {xs ys : List Blk},szB.szBs (xs ++ ys) = szB.szBs xs + szB.szBs ys
 | [],ys => by simp [szB.szBs]
 | b :: bs,ys => by rw [List.cons_append,szB.szBs,szB.szBs,szBs_app (xs := bs)]; omega
theorem szB_pos (b : Blk) : 1 <= szB b := by
 obtain ⟨k,n,a,ks,ls⟩ := b
 rw [szB]; omega
theorem szBs_len : ∀ {xs : List Blk},xs.length <= szB.szBs xs
 | [] => by simp
 | b :: bs => by
  rw [szB.szBs,List.length_cons]
  have := szB_pos b
  have := szBs_len (xs := bs)
  omega
theorem parts_ok {b : Blk} (h : okK b) : ∀ x ∈ partsB b,okK x := by
 obtain ⟨k,n,a,ks,ls⟩ := b
 intro x hx
 rw [partsB] at hx
 split at hx
 ·rw [okK] at h
  exact okKs_iff.1 h.2.2.2.2 x hx
 ·split at hx
  ·cases hx
  ·rw [List.mem_singleton] at hx; subst hx; exact h
theorem parts_size (b : Blk) : szB.szBs (partsB b) <= szB b := by
 obtain ⟨k,n,a,ks,ls⟩ := b
 rw [partsB]
 split
 ·rw [szB]; omega
 ·split
  ·simp [szB.szBs]
  ·simp [szB.szBs]
theorem emptyB_ok : okK emptyB := by
 rw [emptyB,okK,okK.okKs]
 simp
theorem row_ok {l : List Blk} (h : ∀ x ∈ l,okK x) : okK (rowB l) := by
 match l,h with
 | [],_ => exact emptyB_ok
 | [b],h => exact h b mcs
 | a :: b :: l,h =>
  rw [rowB,okK]
  ·exact ⟨by omega,by omega,by omega,rfl,okKs_iff.2 h⟩
  ·simp
  ·simp
structure KidOk (n : Nt) (b : Blk) (i o : Nat) : Prop where
 ok : okK b
 ne : b.kd ≠ 1 /\ b.kd ≠ 9 /\ b.kd ≠ 10
 gate : b.kd = 8 -> (0 <= b.nd /\ b.nd < n.nodes.length) /\ (kindN n b.nd = 5 ∨ kindN n b.nd = 6 ∨ kindN n b.nd = 7) /\ i = (insN n b.nd).length /\ o = (outsN n b.nd).length
 one : b.kd ≠ 8 -> i = 1 /\ o = 1
 seq : b.kd = 3 -> 2 <= (kidsB b).length
def sizeW (ks : List Blk) : Nat := szB.szBs ks
structure InvW (n : Nt) (w : Wb) : Prop where
 rng : ∀ l ∈ w.ls,(-1 <= l.1 /\ l.1 < w.ks.length) /\ (-1 <= l.2.1 /\ l.2.1 < w.ks.length) /\ 0 <= l.2.2 /\ l.2.2 < n.flows.length
 kid : ∀ (i : Nat) b,w.ks[i]? = some b -> KidOk n b (insW w.ls i).length (outsW w.ls i).length
 size : sizeW w.ks + w.ls.length <= 64
 lens : w.ks.length <= 24 /\ w.ls.length <= 40
theorem inL_nat {X : List Int} {i : Nat} : inL X i = true ↔ (i : Int) ∈ X := by simp [inL]
theorem dropK_size {gone : Nat -> Bool} : ∀ {bs : List Blk} {i : Nat},sizeW (dropK gone i bs) <= sizeW bs
 | [],i => by simp [dropK]
 | b :: bs,i => by
  rw [dropK]
  have := dropK_size (gone := gone) (bs := bs) (i := i + 1)
  simp only [sizeW,szB.szBs] at this ⊢
  split
  ·omega
  ·rw [szB.szBs]; omega
theorem dropK_le {gone : Nat -> Bool} : ∀ {bs : List Blk} {i : Nat},(dropK gone i bs).length <= bs.length
 | [],i => by simp [dropK]
 | b :: bs,i => by
  rw [dropK]
  have := dropK_le (gone := gone) (bs := bs) (i := i + 1)
  split <;> simp <;> omega
theorem dropL_le {gone cut : Nat -> Bool} : ∀ {ls : List Lk} {i : Nat},(dropL gone cut i ls).length <= ls.length
 | [],i => by simp [dropL]
 | b :: bs,i => by
  rw [dropL]
  have := dropL_le (gone := gone) (cut := cut) (ls := bs) (i := i + 1)
  split <;> simp <;> omega
structure EndsKept (gone : Nat -> Bool) (l : Lk) : Prop where
 fr : 0 <= l.1 -> gone l.1.toNat = false
 to : 0 <= l.2.1 -> gone l.2.1.toNat = false
theorem rank_lt {gone : Nat -> Bool} {bs : List Blk} {x : Nat} (hx : x < bs.length) (hg : gone x = false) : rank gone x < (dropK gone 0 bs).length := by
 have h := dropK_put (i := 0) (gone := gone) (Nat.zero_le x) (gge (l := bs) (i := x - 0) (by omega)) hg
 have := (gsi.1 h).1
 simpa [rank] using this
theorem renum_rng {gone : Nat -> Bool} {bs : List Blk} {x : Int} (h : -1 <= x /\ x < bs.length) (hg : 0 <= x -> gone x.toNat = false) : -1 <= renum gone x /\ renum gone x < (dropK gone 0 bs).length := by
 by_cases hx : x < 0
 ·rw [renum_neg hx]; omega
 ·obtain ⟨z,rfl⟩ : ∃ z : Nat,x = z := ⟨x.toNat,by omega⟩
  rw [renum_nat]
  have := rank_lt (bs := bs) (gone := gone) (x := z) (by omega) (by simpa using hg (by omega))
  omega
def atF (f : Blk -> Nat) (ks : List Blk) (y : Nat) : Nat := match ks[y]? with
 | some b => f b
 | none => 0
structure Shp (w x : Wb) (s : Nat) (B : Blk) (gone : List Int) (cut : List Nat) (p : Nat) (L : List Nat) : Prop where
 eq : x = dropW ⟨w.ks.set s B,setFrom w.ls p s⟩ gone cut
 sl : s < w.ks.length
 sg : inL gone s = false
 pl : p < w.ls.length
 pc : p ∉ cut
 pf : ∃ y : Nat,(lkW w.ls p).1 = y /\ inL gone y = true
 Ln : L.Nodup
 Lg : ∀ y : Nat,inL gone y = true ↔ y ∈ L
 Ll : ∀ y ∈ L,y < w.ks.length
 out : ∀ (y : Nat) k,inL gone y = false -> y ≠ s -> k ∈ outsW w.ls y -> k ∉ cut
 ends : ∀ k ∈ cut,k < w.ls.length /\ 0 <= (lkW w.ls k).1 /\ 0 <= toW w.ls k
 kept : ∀ k l,(setFrom w.ls p s)[k]? = some l -> k ∉ cut -> EndsKept (inL gone) l
theorem inv_drop {n : Nt} {w : Wb} {gone : List Int} {cut : List Nat}
  (hr : ∀ l ∈ w.ls,(-1 <= l.1 /\ l.1 < w.ks.length) /\ (-1 <= l.2.1 /\ l.2.1 < w.ks.length) /\ 0 <= l.2.2 /\ l.2.2 < n.flows.length)
  (he : ∀ k l,w.ls[k]? = some l -> k ∉ cut -> EndsKept (inL gone) l)
  (hk : ∀ (x : Nat) b,w.ks[x]? = some b -> inL gone x = false -> KidOk n b ((insW w.ls x).filter fun k => !cut.contains k).length ((outsW w.ls x).filter fun k => !cut.contains k).length)
  (hs : sizeW (dropK (inL gone) 0 w.ks) + (dropL (inL gone) cut.contains 0 w.ls).length <= 64) (hl : w.ks.length <= 24 /\ w.ls.length <= 40) : InvW n (dropW w gone cut) := by
 have hc : ∀ k,cut.contains k = false -> k ∉ cut := fun k h hm => by simp [hm] at h
 refine ⟨fun l hlm => ?_,fun i b hb => ?_,hs,?_⟩
 ·obtain ⟨k,l',h1,h2,rfl⟩ := dropL_mem hlm
  have hm := hr l' (mog h1)
  have hek := he k l' h1 (hc k (by simpa using h2))
  exact ⟨renum_rng hm.1 hek.fr,renum_rng hm.2.1 hek.to,hm.2.2⟩
 ·obtain ⟨x,_,h2,h3,h4⟩ := dropK_get hb
  rw [Nat.sub_zero] at h2
  have e0 : rank (inL gone) 0 = 0 := rfl
  rw [e0,Nat.zero_add] at h4
  subst h4
  have hko := hk x b h2 h3
  have c1 : (insW (dropL (inL gone) cut.contains 0 w.ls) (rank (inL gone) x : Nat)).length = ((insW w.ls x).filter fun k => !cut.contains k).length :=
   dropL_cnt (fun l => l.2.1 == (x : Int)) _ fun k l hkl hcut => renum_eq (he k l hkl (hc k (by simpa using hcut))).to h3
  have c2 : (outsW (dropL (inL gone) cut.contains 0 w.ls) (rank (inL gone) x : Nat)).length = ((outsW w.ls x).filter fun k => !cut.contains k).length :=
   dropL_cnt (fun l => l.1 == (x : Int)) _ fun k l hkl hcut => renum_eq (he k l hkl (hc k (by simpa using hcut))).fr h3
  show KidOk n b (insW (dropL (inL gone) cut.contains 0 w.ls) (rank (inL gone) x : Nat)).length (outsW (dropL (inL gone) cut.contains 0 w.ls) (rank (inL gone) x : Nat)).length
  rw [c1,c2]; exact hko
 ·have h1 := dropK_le (gone := inL gone) (bs := w.ks) (i := 0)
  have h2 := dropL_le (gone := inL gone) (cut := cut.contains) (ls := w.ls) (i := 0)
  exact ⟨by show (dropK (inL gone) 0 w.ks).length <= 24; omega,by show (dropL (inL gone) cut.contains 0 w.ls).length <= 40; omega⟩
def sumIf (p : Nat -> Bool) : Nat -> List Blk -> Nat
 | _,[] => 0
 | i,b :: bs => (if p i = true then szB b else 0) + sumIf p (i + 1) bs
def sizeAt (ks : List Blk) (x : Nat) : Nat := match ks[x]? with
 | some b => szB b
 | none => 0
theorem dropK_sum {gone : Nat -> Bool} : ∀ {bs : List Blk} {i : Nat},sizeW (dropK gone i bs) = sumIf (fun x => !gone x) i bs
 | [],i => rfl
 | b :: bs,i => by
  rw [dropK,sumIf]
  have ih := dropK_sum (gone := gone) (bs := bs) (i := i + 1)
  cases gone i <;> simp [<- ih,sizeW,szB.szBs]
theorem sum_split (p : Nat -> Bool) : ∀ {bs : List Blk} {i : Nat},sumIf p i bs + sumIf (fun x => !p x) i bs = sizeW bs
 | [],i => rfl
 | b :: bs,i => by
  rw [sumIf,sumIf]
  have ih := sum_split p (bs := bs) (i := i + 1)
  simp only [sizeW,szB.szBs] at ih ⊢
  cases hp : p i <;> simp <;> omega
theorem sum_mono {p q : Nat -> Bool} (h : ∀ x,p x = true -> q x = true) : ∀ {bs : List Blk} {i : Nat},sumIf p i bs <= sumIf q i bs
 | [],i => Nat.le_refl _
 | b :: bs,i => by
  rw [sumIf,sumIf]
  have ih := sum_mono h (bs := bs) (i := i + 1)
  cases hp : p i
  ·simp; omega
  ·simp [h i hp]; omega
theorem sum_none {p : Nat -> Bool} : ∀ {bs : List Blk} {i : Nat},(∀ x,i <= x -> p x = false) -> sumIf p i bs = 0
 | [],i,_ => rfl
 | b :: bs,i,h => by
  rw [sumIf,h i (Nat.le_refl i),sum_none (bs := bs) fun x hx => h x (by omega)]
  rfl
theorem sum_one {a : Nat} : ∀ {bs : List Blk} {i : Nat},i <= a -> sumIf (fun x => x == a) i bs = (match bs[a - i]? with | some b => szB b | none => 0)
 | [],i,_ => by simp [sumIf]
 | b :: bs,i,h => by
  rw [sumIf]
  by_cases e : i = a
  ·subst e
   rw [sum_none fun x hx => by simp; omega]
   simp
  ·rw [sum_one (by omega),if_neg (by simpa using e),show a - i = (a - (i + 1)) + 1 by omega]
   simp
theorem sum_or {p q : Nat -> Bool} (h : ∀ x,p x = true -> q x = false) : ∀ {bs : List Blk} {i : Nat},sumIf (fun x => p x || q x) i bs = sumIf p i bs + sumIf q i bs
 | [],i => rfl
 | b :: bs,i => by
  rw [sumIf,sumIf,sumIf,sum_or h (bs := bs) (i := i + 1)]
  cases hp : p i
  ·simp; omega
  ·simp [h i hp]; omega
theorem sum_list : ∀ {L : List Nat} {ks : List Blk},L.Nodup -> (L.map (sizeAt ks)).sum = sumIf L.contains 0 ks
 | [],ks,_ => by rw [sum_none (p := ([] : List Nat).contains) fun x _ => rfl]; rfl
 | a :: L,ks,h => by
  obtain ⟨h1,h2⟩ := List.nodup_cons.1 h
  have e : (a :: L).contains = fun x => (x == a) || L.contains x := by
   funext x; rw [List.contains_cons]
  rw [e,sum_or fun x hx => by
   have : x = a := by simpa using hx
   subst this; simpa using h1,sum_one (Nat.zero_le a),List.map_cons,List.sum_cons,sum_list h2]
  rfl
theorem drop_size {ks : List Blk} {gone : Nat -> Bool} {L : List Nat} (hn : L.Nodup) (hg : ∀ x ∈ L,gone x = true) : sizeW (dropK gone 0 ks) + (L.map (sizeAt ks)).sum <= sizeW ks := by
 rw [dropK_sum,sum_list hn]
 have h1 := sum_split gone (bs := ks) (i := 0)
 have h2 : sumIf L.contains 0 ks <= sumIf gone 0 ks := sum_mono fun x hx => hg x (by simpa using hx)
 omega
theorem set_size : ∀ {ks : List Blk} {s : Nat} {b c : Blk},ks[s]? = some b -> sizeW (ks.set s c) + szB b = sizeW ks + szB c
 | [],s,b,c,h => by simp at h
 | x :: xs,0,b,c,h => by
  simp at h; subst h
  simp only [List.set_cons_zero,sizeW,szB.szBs]; omega
 | x :: xs,s + 1,b,c,h => by
  have := set_size (ks := xs) (s := s) (b := b) (c := c) (by simpa using h)
  simp only [List.set_cons_succ,sizeW,szB.szBs] at this ⊢; omega
theorem sizeAt_set {ks : List Blk} {s x : Nat} {c : Blk} (h : x ≠ s) : sizeAt (ks.set s c) x = sizeAt ks x := by
 unfold sizeAt
 rw [List.getElem?_set_ne (Ne.symm h)]
theorem sizeAt_get {ks : List Blk} {x : Nat} {b : Blk} (h : ks[x]? = some b) : sizeAt ks x = szB b := by simp [sizeAt,h]
theorem cut_len {ls : List Lk} {gone : Nat -> Bool} {cut C : List Nat} (hn : C.Nodup) (h : ∀ k ∈ C,k ∈ cut /\ k < ls.length) : (dropL gone cut.contains 0 ls).length + C.length <= ls.length := by
 have h1 := dropL_len (gone := gone) (cut := cut.contains) (ls := ls) (i := 0)
 have h2 : C.length = ((List.range' 0 ls.length).filter C.contains).length := same_len hn (nodup_filter _ List.nodup_range') fun a => by
  simp only [List.mem_filter,List.mem_range'_1,List.contains_iff_mem]
  constructor
  ·intro ha; exact ⟨by have := (h a ha).2; omega,ha⟩
  ·exact fun ha => ha.2
 have h3 : ((List.range' 0 ls.length).filter C.contains).length <= ((List.range' 0 ls.length).filter cut.contains).length := by
  rw [<- List.countP_eq_length_filter,<- List.countP_eq_length_filter]
  exact List.countP_mono_left fun a _ ha => by
   simp only [List.contains_iff_mem] at ha ⊢
   exact (h a ha).1
 omega
theorem kid_nat {ks : List Blk} {i : Nat} : kidW ks i = ks[i]? := by rw [kidW,if_neg (by omega)]; simp
theorem gate_iff {ks : List Blk} {i : Nat} {b : Blk} (h : ks[i]? = some b) : gateW ks i = (b.kd == 8) := by simp [gateW,kid_nat,h]
theorem mem_setFrom {ls : List Lk} {k : Nat} {a : Int} (hk : k < ls.length) {j : Nat} {l : Lk} : (setFrom ls k a)[j]? = some l ↔ (j = k /\ l = (a,(lkW ls k).2)) ∨ (j ≠ k /\ ls[j]? = some l) := by
 rw [setFrom,List.getElem?_set]
 by_cases e : k = j
 ·subst e
  rw [if_pos rfl,if_pos hk]
  simp only [sjE,true_and,ne_eq,not_true_eq_false,false_and,or_false]
  exact eq_comm
 ·rw [if_neg e]
  simp [Ne.symm e]
theorem setFrom_ins {ls : List Lk} {k : Nat} {a : Int} (hk : k < ls.length) (x : Int) (j : Nat) : j ∈ insW (setFrom ls k a) x ↔ j ∈ insW ls x := by
 rw [mem_ins,mem_ins]
 constructor
 ·rintro ⟨l,h1,h2⟩
  rcases (mem_setFrom hk).1 h1 with ⟨rfl,rfl⟩ | ⟨h3,h4⟩
  ·exact ⟨ls[j],gge hk,by rw [<- h2,lk_get (gge hk)]⟩
  ·exact ⟨l,h4,h2⟩
 ·rintro ⟨l,h1,h2⟩
  by_cases e : j = k
  ·subst e
   exact ⟨_,(mem_setFrom hk).2 (.inl ⟨rfl,rfl⟩),by rw [lk_get h1]; exact h2⟩
  ·exact ⟨l,(mem_setFrom hk).2 (.inr ⟨e,h1⟩),h2⟩
theorem setFrom_outs {ls : List Lk} {k : Nat} {a : Int} (hk : k < ls.length) (x : Int) (j : Nat) : j ∈ outsW (setFrom ls k a) x ↔ (j = k /\ a = x) ∨ (j ≠ k /\ j ∈ outsW ls x) := by
 rw [mem_outs,mem_outs]
 constructor
 ·rintro ⟨l,h1,h2⟩
  rcases (mem_setFrom hk).1 h1 with ⟨rfl,rfl⟩ | ⟨h3,h4⟩
  ·exact .inl ⟨rfl,h2⟩
  ·exact .inr ⟨h3,l,h4,h2⟩
 ·rintro (⟨rfl,h2⟩ | ⟨h3,l,h4,h2⟩)
  ·exact ⟨_,(mem_setFrom hk).2 (.inl ⟨rfl,rfl⟩),h2⟩
  ·exact ⟨l,(mem_setFrom hk).2 (.inr ⟨h3,h4⟩),h2⟩
theorem setFrom_rng {ls : List Lk} {k : Nat} {a : Int} {p : Lk -> Prop} (hp : ∀ l ∈ ls,p l) (ha : k < ls.length -> p (a,(lkW ls k).2)) : ∀ l ∈ setFrom ls k a,p l := by
 intro l hl
 rw [setFrom] at hl
 rcases List.mem_or_eq_of_mem_set hl with h | h
 ·exact hp l h
 ·subst h
  by_cases hk : k < ls.length
  ·exact ha hk
  ·rw [List.set_eq_of_length_le (by omega)] at hl
   exact hp _ hl
structure Single (w : Wb) (x : Nat) (i o : Nat) : Prop where
 ins : ∀ k,k ∈ insW w.ls x ↔ k = i
 outs : ∀ k,k ∈ outsW w.ls x ↔ k = o
theorem single {n : Nt} {w : Wb} (h : InvW n w) {x : Nat} {b : Blk} (hb : w.ks[x]? = some b) (hg : gateW w.ks x = false) : Single w x (hd (insW w.ls x)) (hd (outsW w.ls x)) := by
 have hk := (h.kid x b hb).one (by rw [gate_iff hb] at hg; simpa using hg)
 constructor
 ·intro k; have := hd_one hk.1; rw [this]; simp [hd]
 ·intro k; have := hd_one hk.2; rw [this]; simp [hd]
theorem lk_of {ls : List Lk} {k : Nat} (h : k < ls.length) : ls[k]? = some (lkW ls k) := by
 rw [gge h,lk_get (gge h)]
theorem outsW_lt {ls : List Lk} {x : Int} {k : Nat} (h : k ∈ outsW ls x) : k < ls.length /\ (lkW ls k).1 = x := by
 obtain ⟨l,h1,h2⟩ := mem_outs.1 h
 exact ⟨(gsi.1 h1).1,by rw [lk_get h1]; exact h2⟩
theorem ins_lt {ls : List Lk} {x : Int} {k : Nat} (h : k ∈ insW ls x) : k < ls.length /\ toW ls k = x := by
 obtain ⟨l,h1,h2⟩ := mem_ins.1 h
 exact ⟨(gsi.1 h1).1,by rw [toW,lk_get h1]; exact h2⟩
theorem in_ins {ls : List Lk} {k : Nat} (h : k < ls.length) : k ∈ insW ls (toW ls k) := mem_ins.2 ⟨_,lk_of h,rfl⟩
theorem parts_ne {b : Blk} (h1 : b.kd ≠ 1) (h3 : b.kd = 3 -> 2 <= (kidsB b).length) : 1 <= (partsB b).length := by
 obtain ⟨k,n,a,ks,ls⟩ := b
 rw [partsB]
 simp only [Blk.kd] at h1 h3
 split
 ·rename_i e; have := h3 e; simp only [kidsB] at this; omega
 ·simp
theorem row_many {l : List Blk} (h : 2 <= l.length) : rowB l = .mk 3 0 0 l [] := by
 match l,h with
 | a :: b :: l,_ => rfl
theorem drop_ne {w : Wb} {gone : List Int} {cut : List Nat} {i : Nat} (hi : i < w.ks.length) (hg : inL gone i = false) : (dropW w gone cut).ks ≠ [] := by
 intro e
 have h := dropK_put (gone := inL gone) (bs := w.ks) (i := 0) (x := i) (Nat.zero_le _) (gge (by simpa using hi)) hg
 rw [show dropK (inL gone) 0 w.ks = [] from e] at h
 simp at h
theorem one_all {n : Nt} {w x : Wb} (h : InvW n w) {a : Nat} (ha : a < w.ks.length) (hx : oneAt w a = some x) : (InvW n x /\ x.ls.length < w.ls.length /\ x.ks ≠ []) /\ ∃ (b : Nat) (ka kb : Blk) (gone : List Int) (cut : List Nat) (p : Nat),w.ks[a]? = some ka /\ w.ks[b]? = some kb /\ a ≠ b /\ gateW w.ks a = false /\ gateW w.ks b = false /\ Shp w x a (rowB (partsB ka ++ partsB kb)) gone cut p [b] := by
 have hka : w.ks[a]? = some w.ks[a] := gge ha
 unfold oneAt at hx
 split at hx
 ·cases hx
 rename_i hga
 simp only [Bool.not_eq_true] at hga
 simp only at hx
 split at hx
 ·cases hx
 rename_i hcond
 simp only [Bool.or_eq_true,dqE,beq_iff_eq,not_or,Bool.not_eq_true] at hcond
 obtain ⟨hb0,hba,hgb⟩ := hcond
 have hx := sij hx
 subst hx
 have sa := single h hka hga
 generalize ho : hd (outsW w.ls a) = o at sa hb0 hba hgb ⊢
 have hoa : o ∈ outsW w.ls a := (sa.outs o).2 rfl
 obtain ⟨hol,hof⟩ := outsW_lt hoa
 obtain ⟨b,hb⟩ : ∃ b : Nat,toW w.ls o = b := ⟨(toW w.ls o).toNat,by omega⟩
 rw [hb] at hba hgb ⊢
 have hrng := h.rng _ (mog (lk_of hol))
 have hbl : b < w.ks.length := by
  have : (lkW w.ls o).2.1 = b := hb
  omega
 have hkb : w.ks[b]? = some w.ks[b] := gge hbl
 have sb := single h hkb hgb
 generalize ho2 : hd (outsW w.ls b) = o2 at sb ⊢
 generalize hd (insW w.ls b) = i2 at sb
 have hi2 : o = i2 := (sb.ins o).1 (by have := in_ins hol; rw [hb] at this; exact this)
 subst hi2
 obtain ⟨ho2l,ho2f⟩ := outsW_lt ((sb.outs o2).2 rfl)
 have hab : a ≠ b := fun e => hba (by rw [e])
 have hoo : o2 ≠ o := by
  rintro rfl
  rw [hof] at ho2f; omega
 have koA := h.kid a _ hka
 have koB := h.kid b _ hkb
 have hA8 : w.ks[a].kd ≠ 8 := by rw [gate_iff hka] at hga; simpa using hga
 have hB8 : w.ks[b].kd ≠ 8 := by rw [gate_iff hkb] at hgb; simpa using hgb
 have hkidA : (kidW w.ks a).getD emptyB = w.ks[a] := by rw [kid_nat,hka]; rfl
 have hkidB : (kidW w.ks b).getD emptyB = w.ks[b] := by rw [kid_nat,hkb]; rfl
 rw [hkidA,hkidB]
 have hlen2 : 2 <= (partsB w.ks[a] ++ partsB w.ks[b]).length := by
  have := parts_ne koA.ne.1 koA.seq
  have := parts_ne koB.ne.1 koB.seq
  rw [List.length_append]; omega
 have hR := row_many hlen2
 generalize hRd : rowB (partsB w.ks[a] ++ partsB w.ks[b]) = R at hR ⊢
 have hRok : okK R := by
  rw [<- hRd]
  refine row_ok fun y hy => ?_
  rcases List.mem_append.1 hy with hy | hy
  ·exact parts_ok koA.ok y hy
  ·exact parts_ok koB.ok y hy
 have hRs : szB R <= 1 + (szB w.ks[a] + szB w.ks[b]) := by
  rw [hR,szB,szBs_app]
  have := parts_size w.ks[a]
  have := parts_size w.ks[b]
  omega
 have hgone : ∀ x : Nat,inL [(b : Int)] x = false ↔ x ≠ b := fun x => by
  rw [<- Bool.not_eq_true,inL_nat,List.mem_singleton]; omega
 have hcutl := cut_len (ls := setFrom w.ls o2 a) (gone := inL [(b : Int)]) (cut := [o]) (C := [o]) (by simp) (by
  intro k hk; rw [List.mem_singleton] at hk; subst hk
  exact ⟨List.mem_singleton.2 rfl,by simp [setFrom]; exact hol⟩)
 have hsl : (setFrom w.ls o2 a).length = w.ls.length := by simp [setFrom]
 rw [hsl] at hcutl
 simp only [List.length_singleton] at hcutl
 have he : ∀ k l,(setFrom w.ls o2 a)[k]? = some l -> k ∉ [o] -> EndsKept (inL [(b : Int)]) l := by
  intro k l hk hc
  replace hk : (setFrom w.ls o2 a)[k]? = some l := hk
  have hko : k ≠ o := fun e => hc (by rw [e]; exact List.mem_singleton.2 rfl)
  have key : ∀ y : Int,(y = b -> False) -> 0 <= y -> inL [(b : Int)] y.toNat = false := fun y hy h0 => (hgone _).2 fun e => hy (by omega)
  rcases (mem_setFrom ho2l).1 hk with ⟨rfl,rfl⟩ | ⟨h1,h2⟩
  ·refine ⟨key _ fun e => hab (by simp only at e; omega),key _ fun e => hko ((sb.ins k).1 ?_)⟩
   have := in_ins ho2l
   rw [toW,show (lkW w.ls k).2.1 = b from e] at this
   exact this
  ·refine ⟨key _ fun e => h1 ((sb.outs k).1 (mem_outs.2 ⟨l,h2,e⟩)),key _ fun e => hko ((sb.ins k).1 (mem_ins.2 ⟨l,h2,e⟩))⟩
 have hs1 : Shp w (dropW ⟨w.ks.set a R,setFrom w.ls o2 a⟩ [(b : Int)] [o]) a R [(b : Int)] [o] o2 [b] := by
  refine ⟨rfl,ha,(hgone a).2 hab,ho2l,by simpa using hoo,⟨b,ho2f,by rw [inL_nat]; simp⟩,by simp,fun y => by rw [inL_nat]; simp; omega,fun y hy => by rw [List.mem_singleton] at hy; subst hy; exact hbl,fun y k hyg hya hk hc => ?_,fun k hk => ?_,he⟩
  ·rw [List.mem_singleton] at hc; subst hc
   have := (outsW_lt hk).2
   omega
  ·rw [List.mem_singleton] at hk; subst hk
   exact ⟨hol,by omega,by omega⟩
 refine ⟨⟨inv_drop ?_ he ?_ ?_ ?_,hcutl,drop_ne (i := a) (by show a < (w.ks.set a R).length; rw [lls]; exact ha) ((hgone a).2 hab)⟩,⟨b,_,_,_,_,_,hka,hkb,hab,hga,hgb,by rw [hRd]; exact hs1⟩⟩
 ·show ∀ l ∈ setFrom w.ls o2 a,_
  rw [lls]
  refine setFrom_rng h.rng fun hk => ?_
  have h9 := h.rng _ (mog (lk_of hk))
  refine ⟨⟨?_,?_⟩,h9.2⟩
  ·show (-1 : Int) <= (a : Int); omega
  ·show (a : Int) < _; omega
 ·intro x c hc hg
  replace hc : (w.ks.set a R)[x]? = some c := hc
  show KidOk n c ((insW (setFrom w.ls o2 a) x).filter fun k => ![o].contains k).length ((outsW (setFrom w.ls o2 a) x).filter fun k => ![o].contains k).length
  have hxb := (hgone x).1 hg
  have hcut : ∀ k,(![o].contains k) = true ↔ k ≠ o := fun k => by simp
  have ein : ((insW (setFrom w.ls o2 a) x).filter fun k => ![o].contains k).length = (insW w.ls x).length :=
   same_len (nodup_filter _ (ins_nodup _ _)) (ins_nodup _ _) fun k => by
    rw [List.mem_filter,setFrom_ins ho2l,hcut]
    refine ⟨fun hh => hh.1,fun hh => ⟨hh,fun e => ?_⟩⟩
    subst e
    have := (ins_lt hh).2
    rw [hb] at this; omega
  rw [ein]
  by_cases hxa : x = a
  ·subst hxa
   have eout : ((outsW (setFrom w.ls o2 x) x).filter fun k => ![o].contains k).length = 1 :=
    one_len (c := o2) (nodup_filter _ (outs_nodup _ _)) fun k => by
     rw [List.mem_filter,setFrom_outs ho2l,hcut]
     constructor
     ·rintro ⟨⟨rfl,_⟩ | ⟨h1,h2⟩,h3⟩
      ·rfl
      ·exact absurd ((sa.outs k).1 h2) h3
     ·rintro rfl
      exact ⟨.inl ⟨rfl,rfl⟩,hoo⟩
   rw [eout]
   rw [gss ha] at hc
   obtain rfl := sij hc
   have hkd : R.kd = 3 := by rw [hR]; rfl
   exact ⟨hRok,by rw [hkd]; decide,fun e => by rw [hkd] at e; exact absurd e (by decide),fun _ => ⟨(koA.one hA8).1,rfl⟩,fun _ => by rw [hR]; exact hlen2⟩
  ·rw [List.getElem?_set_ne (Ne.symm hxa)] at hc
   have eout : ((outsW (setFrom w.ls o2 a) x).filter fun k => ![o].contains k).length = (outsW w.ls x).length :=
    same_len (nodup_filter _ (outs_nodup _ _)) (outs_nodup _ _) fun k => by
     rw [List.mem_filter,setFrom_outs ho2l,hcut]
     constructor
     ·rintro ⟨⟨rfl,h1⟩ | ⟨h1,h2⟩,h3⟩
      ·exact absurd (show x = a by omega) hxa
      ·exact h2
     ·intro hh
      refine ⟨.inr ⟨fun e => ?_,hh⟩,fun e => ?_⟩
      ·subst e; have := (outsW_lt hh).2; omega
      ·subst e; have := (outsW_lt hh).2; omega
   rw [eout]
   exact h.kid x c hc
 ·have h1 := drop_size (ks := w.ks.set a R) (gone := inL [(b : Int)]) (L := [b]) (by simp) (fun x hx => by rw [List.mem_singleton] at hx; subst hx; rw [inL_nat]; simp)
  rw [List.map_singleton,List.sum_singleton,sizeAt_set (Ne.symm hab),sizeAt_get hkb] at h1
  have h2 := set_size (c := R) hka
  have := h.size
  show sizeW (dropK (inL [(b : Int)]) 0 (w.ks.set a R)) + (dropL (inL [(b : Int)]) [o].contains 0 (setFrom w.ls o2 a)).length <= 64
  omega
 ·exact ⟨by show (w.ks.set a R).length <= 24; rw [lls]; exact h.lens.1,by show (setFrom w.ls o2 a).length <= 40; rw [hsl]; exact h.lens.2⟩
theorem one_inv {n : Nt} {w x : Wb} (h : InvW n w) {a : Nat} (ha : a < w.ks.length) (hx : oneAt w a = some x) : InvW n x /\ x.ls.length < w.ls.length /\ x.ks ≠ [] := (one_all h ha hx).1
theorem nodup_filterMap {α β : Type} {f : α -> Option β} : ∀ {l : List α},l.Nodup -> (∀ a ∈ l,∀ a' ∈ l,∀ b,f a = some b -> f a' = some b -> a = a') -> (l.filterMap f).Nodup
 | [],_,_ => by simp
 | x :: xs,h,hi => by
  obtain ⟨h1,h2⟩ := List.nodup_cons.1 h
  have ih := nodup_filterMap h2 fun a ha a' ha' => hi a (mcm _ ha) a' (mcm _ ha')
  rw [List.filterMap_cons]
  cases hx : f x with
  | none => exact ih
  | some b =>
   refine List.nodup_cons.2 ⟨fun hm => ?_,ih⟩
   obtain ⟨a,ha,hb⟩ := List.mem_filterMap.1 hm
   have := hi x mcs a (mcm _ ha) b hx hb
   subst this; exact h1 ha
theorem nodup_map {α β : Type} {f : α -> β} {l : List α} (h : l.Nodup) (hi : ∀ a ∈ l,∀ a' ∈ l,f a = f a' -> a = a') : (l.map f).Nodup := by
 rw [<- List.filterMap_eq_map]
 exact nodup_filterMap h fun a ha a' ha' b h1 h2 => hi a ha a' ha' (by simp at h1 h2; rw [h1,h2])
theorem sub_all {α : Type} [DecidableEq α] {l1 l2 : List α} (h1 : l1.Nodup) (h2 : l2.Nodup) (hs : ∀ a ∈ l1,a ∈ l2) (hl : l2.length <= l1.length) : ∀ a ∈ l2,a ∈ l1 := by
 have e : l1.length = (l2.filter fun a => decide (a ∈ l1)).length := same_len h1 (nodup_filter _ h2) fun a => by
  simp only [List.mem_filter,dqE]
  exact ⟨fun ha => ⟨hs a ha,ha⟩,fun ha => ha.2⟩
 have hle := List.length_filter_le (fun a => decide (a ∈ l1)) l2
 have : (l2.filter fun a => decide (a ∈ l1)).length = l2.length := by omega
 intro a ha
 simpa using List.length_filter_eq_length_iff.1 this a ha
theorem follow_cases {n : Nt} {w : Wb} (h : InvW n w) {q : Nat} (hq : q < w.ls.length) :
  (followW w q = ⟨toW w.ls q,-1,q⟩ /\ (toW w.ls q < 0 ∨ gateW w.ks (toW w.ls q) = true)) ∨
   ∃ b o : Nat,toW w.ls q = b /\ b < w.ks.length /\ gateW w.ks b = false /\ Single w b q o /\ o < w.ls.length /\ followW w q = ⟨toW w.ls o,b,o⟩ := by
 by_cases hc : toW w.ls q < 0 ∨ gateW w.ks (toW w.ls q) = true
 ·refine .inl ⟨?_,hc⟩
  rw [followW,if_pos (by simpa using hc)]
 ·refine .inr ?_
  have hc' := hc
  simp only [not_or,Bool.not_eq_true] at hc'
  obtain ⟨b,hb⟩ : ∃ b : Nat,toW w.ls q = b := ⟨(toW w.ls q).toNat,by omega⟩
  have hrng := h.rng _ (mog (lk_of hq))
  have hbl : b < w.ks.length := by
   have : (lkW w.ls q).2.1 = b := hb
   omega
  have hgb : gateW w.ks b = false := by rw [<- hb]; exact hc'.2
  have sb := single h (gge hbl) hgb
  have hi := (sb.ins q).1 (by have := in_ins hq; rw [hb] at this; exact this)
  refine ⟨b,hd (outsW w.ls b),hb,hbl,hgb,?_,(outsW_lt ((sb.outs _).2 rfl)).1,?_⟩
  ·rw [<- hi] at sb; exact sb
  ·rw [followW,if_neg (by simpa using hc),hb]
def Gates (n : Nt) : Prop := n.nodes.length <= 24 /\ ∀ v : Int,0 <= v -> v < n.nodes.length -> (kindN n v = 5 ∨ kindN n v = 6 ∨ kindN n v = 7) -> ((insN n v).length = 1 /\ 1 < (outsN n v).length) ∨ (1 < (insN n v).length /\ (outsN n v).length = 1 /\ kindN n v ≠ 7)
theorem drop1_size (b : Blk) : szB (rowB ((partsB b).drop 1)) <= szB b := by
 obtain ⟨k,n,a,ks,ls⟩ := b
 rw [partsB]
 split
 ·match ks with
  | [] => simp [rowB,emptyB,szB,szB.szBs]
  | [x] => simp [rowB,emptyB,szB,szB.szBs]
  | [x,y] => simp [rowB,szB,szB.szBs]; try omega
  | x :: y :: z :: l => simp [rowB,szB,szB.szBs]; try omega
 ·split
  ·simp [rowB,emptyB,szB,szB.szBs]
  ·simp [rowB,emptyB,szB,szB.szBs]
def byN (x : Wz) : Option Nat := if 0 <= x.by_ then some x.by_.toNat else none
def lastN (x : Wz) : Option Nat := if 0 <= x.by_ then some x.last else none
theorem sum_parts {n : Nt} {w : Wb} (h : InvW n w) (k : Int) : ∀ (Q : List Nat),(∀ q ∈ Q,q < w.ls.length) →
  szB.szBs (Q.map fun q => pieceW w k (followW w q)) + (Q.filterMap fun q => byN (followW w q)).length <= ((Q.filterMap fun q => byN (followW w q)).map (sizeAt w.ks)).sum + Q.length ∧
   (Q.filterMap fun q => lastN (followW w q)).length = (Q.filterMap fun q => byN (followW w q)).length
 | [],_ => by simp [szB.szBs]
 | q :: Q,hq => by
  obtain ⟨ih1,ih2⟩ := sum_parts h k Q fun x hx => hq x (mcm _ hx)
  rw [List.map_cons,szB.szBs,List.filterMap_cons,List.filterMap_cons]
  have hps : szB (pieceW w k (followW w q)) <= szB (partW w (followW w q)) := by
   rw [pieceW]
   split
   ·exact drop1_size _
   ·exact Nat.le_refl _
  rcases follow_cases h (hq q mcs) with ⟨e,_⟩ | ⟨b,o,_,hbl,_,_,_,e⟩
  ·have e1 : byN (followW w q) = none := by rw [e]; rfl
   have e2 : lastN (followW w q) = none := by rw [e]; rfl
   have e3 : szB (partW w (followW w q)) = 1 := by rw [e]; rfl
   simp only [e1,e2]
   rw [List.length_cons]
   omega
  ·have e1 : byN (followW w q) = some b := by rw [e]; simp [byN]
   have e2 : lastN (followW w q) = some o := by rw [e]; simp [lastN]
   have e3 : szB (partW w (followW w q)) = sizeAt w.ks b := by
    rw [e,partW,kid_nat,gge hbl,sizeAt_get (gge hbl)]; rfl
   simp only [e1,e2]
   rw [List.length_cons,List.length_cons,List.map_cons,List.sum_cons,List.length_cons]
   omega
theorem gate_ok {n : Nt} {w : Wb} (hG : Gates n) (h : InvW n w) {s : Nat} (hk : gkW n w s ≠ 0) : ∃ b,w.ks[s]? = some b /\ gateW w.ks s = true /\ b.kd = 8 /\ nodeW w.ks s = b.nd /\ gkW n w s = kindN n b.nd /\ (0 <= b.nd /\ b.nd < n.nodes.length) ∧
  (kindN n b.nd = 5 ∨ kindN n b.nd = 6 ∨ kindN n b.nd = 7) /\ (((insW w.ls s).length = 1 /\ 1 < (outsW w.ls s).length) ∨ (1 < (insW w.ls s).length /\ (outsW w.ls s).length = 1 /\ kindN n b.nd ≠ 7)) := by
 rw [gkW] at hk ⊢
 split at hk
 case isFalse => exact absurd rfl hk
 rename_i hg
 rw [if_pos hg]
 have hg' := hg
 rw [gateW,kid_nat] at hg'
 cases hb : w.ks[s]? with
 | none => rw [hb] at hg'; cases hg'
 | some b =>
  rw [hb] at hg'
  have h8 : b.kd = 8 := by simpa using hg'
  have hn : nodeW w.ks s = b.nd := by rw [nodeW,kid_nat,hb]
  obtain ⟨g1,g2,g3,g4⟩ := (h.kid s b hb).gate h8
  refine ⟨b,rfl,hg,h8,hn,by rw [hn],g1,g2,?_⟩
  rw [g3,g4]
  exact hG.2 b.nd g1.1 g1.2 g2
theorem part_ok {n : Nt} {w : Wb} (h : InvW n w) (y : Wz) : okK (partW w y) := by
 rw [partW]
 cases hb : kidW w.ks y.by_ with
 | none => exact emptyB_ok
 | some b =>
  rw [kidW] at hb
  split at hb
  ·cases hb
  ·exact (h.kid _ b hb).ok
theorem piece_ok {n : Nt} {w : Wb} (h : InvW n w) (k : Int) (y : Wz) : okK (pieceW w k y) := by
 rw [pieceW]
 split
 ·exact row_ok fun x hx => parts_ok (part_ok h y) x (List.mem_of_mem_drop hx)
 ·exact part_ok h y
structure Closes (n : Nt) (w : Wb) (s j : Nat) : Prop where
 js : j ≠ s
 jl : j < w.ks.length
 gs : gkW n w s ≠ 0
 gj : gkW n w j = joinOf (gkW n w s)
 two : 2 <= (outsW w.ls s).length
 out : (outsW w.ls j).length = 1
 ins : (insW w.ls j).length = (outsW w.ls s).length
 all : ∀ q ∈ outsW w.ls s,(followW w q).to = j
 wait : gkW n w s = 7 -> ∀ q ∈ outsW w.ls s,awaitK n w q = true
theorem close_some {n : Nt} {w : Wb} {s : Nat} {x : Int} (hx : closeAt n w s = some x) : ∃ j : Nat,x = j /\ Closes n w s j := by
 unfold closeAt at hx
 simp only at hx
 split at hx
 ·cases hx
 rename_i hc
 split at hx
 case isFalse => cases hx
 rename_i hd2
 obtain rfl := sij hx
 simp only [Bool.or_eq_true,beq_iff_eq,dqE,bne_iff_ne,ne_eq,not_or,Decidable.not_not,Nat.not_lt] at hc
 obtain ⟨⟨c1,c2⟩,⟨⟨⟨c3,c4⟩,c5⟩,c5b⟩,c6⟩ := hc
 simp only [Bool.and_eq_true,List.all_eq_true,beq_iff_eq,Bool.or_eq_true,bne_iff_ne,ne_eq] at hd2
 obtain ⟨j,hj⟩ : ∃ j : Nat,(followW w (hd (outsW w.ls s))).to = j := ⟨(followW w (hd (outsW w.ls s))).to.toNat,by omega⟩
 rw [hj] at c3 c4 c5 c5b c6 hd2 ⊢
 have hjl : j < w.ks.length := by
  have hne : gkW n w j ≠ 0 := by
   rw [c5]; unfold joinOf; split <;> decide
  rw [gkW] at hne
  split at hne
  case isFalse => exact absurd rfl hne
  rename_i hg
  rw [gateW,kid_nat] at hg
  cases hb : w.ks[j]? with
  | none => rw [hb] at hg; cases hg
  | some b => exact (gsi.1 hb).1
 refine ⟨j,rfl,⟨by omega,hjl,c1,c5,by simpa [waysW] using c2,c5b,by simpa [waysW] using c6,fun q hq => ?_,fun h7 q hq => ?_⟩⟩
 ·exact hd2.1 (followW w q) (List.mem_map.2 ⟨q,hq,rfl⟩)
 ·rcases hd2.2 with h | h
  ·exact absurd h7 h
  ·exact h q hq
theorem two_all {n : Nt} {w x : Wb} (hG : Gates n) (h : InvW n w) {s : Nat} (hs : s < w.ks.length) (hx : twoAt n w s = some x) : (InvW n x /\ x.ls.length < w.ls.length /\ x.ks ≠ []) /\ ∃ (j : Nat) (gone : List Int) (cut : List Nat) (p : Nat),Closes n w s j /\ Shp w x s (.mk (blockOf (gkW n w s)) (nodeW w.ks s) 0 ((waysW w s).map (pieceW w (gkW n w s))) []) gone cut p (j :: (outsW w.ls s).filterMap fun q => byN (followW w q)) := by
 unfold twoAt at hx
 cases hcl : closeAt n w s with
 | none => rw [hcl] at hx; cases hx
 | some jj =>
 rw [hcl] at hx
 simp only at hx
 obtain ⟨j,rfl,C⟩ := close_some hcl
 clear hcl
 obtain rfl := sij hx
 obtain ⟨bs,hbs,hgs,hbs8,hnode,hgk,hnr,hkn,hcnt⟩ := gate_ok hG h C.gs
 have hgjne : gkW n w j ≠ 0 := by
  rw [C.gj]; unfold joinOf; split <;> decide
 obtain ⟨bj,hbj,hgj,hbj8,_⟩ := gate_ok hG h hgjne
 have hins1 : (insW w.ls s).length = 1 := by
  rcases hcnt with hh | hh
  ·exact hh.1
  ·have := C.two; omega
 have hq : ∀ q ∈ outsW w.ls s,q < w.ls.length /\ ((followW w q = ⟨j,-1,q⟩ /\ toW w.ls q = j) ∨ ∃ b o : Nat,toW w.ls q = b /\ b < w.ks.length /\ gateW w.ks b = false /\ Single w b q o /\ o < w.ls.length /\ toW w.ls o = j /\ followW w q = ⟨j,b,o⟩) := by
  intro q hq
  obtain ⟨hql,hqf⟩ := outsW_lt hq
  have hto := C.all q hq
  refine ⟨hql,?_⟩
  rcases follow_cases h hql with ⟨e,_⟩ | ⟨b,o,e1,e2,e3,e4,e5,e6⟩
  ·rw [e] at hto
   simp only at hto
   exact .inl ⟨by rw [e,hto],hto⟩
  ·rw [e6] at hto
   simp only at hto
   exact .inr ⟨b,o,e1,e2,e3,e4,e5,hto,by rw [e6,hto]⟩
 generalize hk : gkW n w s = k at *
 have hfrs : ∀ q ∈ outsW w.ls s,(lkW w.ls q).1 = s := fun q hqm => (outsW_lt hqm).2
 have hlast : ∀ q ∈ outsW w.ls s,(followW w q).last ∈ insW w.ls j := by
  intro q hqm
  rcases (hq q hqm).2 with ⟨e,e2⟩ | ⟨b,o,_,_,_,_,ol,e2,e⟩
  ·rw [e]
   have := in_ins (hq q hqm).1
   rw [e2] at this; exact this
  ·rw [e]
   have := in_ins ol
   rw [e2] at this; exact this
 have hlinj : ∀ q ∈ outsW w.ls s,∀ q' ∈ outsW w.ls s,(followW w q).last = (followW w q').last -> q = q' := by
  intro q hqm q' hqm' he
  rcases (hq q hqm).2 with ⟨e,_⟩ | ⟨b,o,f1,f2,f3,f4,_,_,e⟩ <;> rcases (hq q' hqm').2 with ⟨e',_⟩ | ⟨b',o',f1',f2',f3',f4',_,_,e'⟩
  ·rw [e,e'] at he; exact he
  ·rw [e,e'] at he
   simp only at he
   have h1 := (outsW_lt ((f4'.outs o').2 rfl)).2
   rw [<- he,hfrs q hqm] at h1
   have : b' = s := by omega
   subst this
   rw [hgs] at f3'; cases f3'
  ·rw [e,e'] at he
   simp only at he
   have h1 := (outsW_lt ((f4.outs o).2 rfl)).2
   rw [he,hfrs q' hqm'] at h1
   have : b = s := by omega
   subst this
   rw [hgs] at f3; cases f3
  ·rw [e,e'] at he
   simp only at he
   have h1 := (outsW_lt ((f4.outs o).2 rfl)).2
   have h2 := (outsW_lt ((f4'.outs o').2 rfl)).2
   rw [he,h2] at h1
   have : b' = b := by omega
   subst this
   have h3 := in_ins (hq q hqm).1
   rw [f1] at h3
   exact (f4'.ins q).1 h3
 have hln : ((outsW w.ls s).map fun q => (followW w q).last).Nodup := nodup_map (outs_nodup _ _) hlinj
 have hall : ∀ k ∈ insW w.ls j,∃ q ∈ outsW w.ls s,(followW w q).last = k := by
  intro k hkm
  have := sub_all hln (ins_nodup _ _) (fun a ha => by
   obtain ⟨q,h1,rfl⟩ := List.mem_map.1 ha
   exact hlast q h1) (by rw [List.length_map,C.ins]; exact Nat.le_refl _) k hkm
  obtain ⟨q,h1,h2⟩ := List.mem_map.1 this
  exact ⟨q,h1,h2⟩
 have hout := hd_one C.out
 generalize hoj : hd (outsW w.ls j) = oj at hout ⊢
 have hojm : ∀ k,k ∈ outsW w.ls j ↔ k = oj := fun k => by rw [hout]; simp
 obtain ⟨hojl,hojf⟩ := outsW_lt ((hojm oj).2 rfl)
 have hmg : ∀ y : Nat,inL ((j : Int) :: ((waysW w s).map (·.by_)).filter fun x => decide (0 <= x)) y = true ↔ y = j ∨ ∃ q ∈ outsW w.ls s,(followW w q).by_ = y := by
  intro y
  rw [inL_nat,List.mem_cons,List.mem_filter,waysW,List.map_map,List.mem_map]
  simp only [Function.comp_apply,dqE]
  constructor
  ·rintro (h1 | ⟨⟨q,h1,h2⟩,h3⟩)
   ·exact .inl (by omega)
   ·exact .inr ⟨q,h1,h2⟩
  ·rintro (h1 | ⟨q,h1,h2⟩)
   ·exact .inl (by omega)
   ·exact .inr ⟨⟨q,h1,h2⟩,by omega⟩
 have hmc : ∀ k,k ∈ outsW w.ls s ++ (waysW w s).map (·.last) ↔ k ∈ outsW w.ls s ∨ k ∈ insW w.ls j := by
  intro k
  rw [List.mem_append,waysW,List.map_map,List.mem_map]
  simp only [Function.comp_apply]
  constructor
  ·rintro (h1 | ⟨q,h1,rfl⟩)
   ·exact .inl h1
   ·exact .inr (hlast q h1)
  ·rintro (h1 | h1)
   ·exact .inl h1
   ·exact .inr (hall k h1)
 generalize hgone : ((j : Int) :: ((waysW w s).map (·.by_)).filter fun x => decide (0 <= x)) = gone at hmg ⊢
 generalize hcut : outsW w.ls s ++ (waysW w s).map (·.last) = cut at hmc ⊢
 have hgby : ∀ y : Nat,inL gone y = true -> y = j ∨ ∃ q o : Nat,q ∈ outsW w.ls s /\ toW w.ls q = y /\ gateW w.ks y = false /\ Single w y q o /\ o ∈ insW w.ls j := by
  intro y hy
  rcases (hmg y).1 hy with h1 | ⟨q,h1,h2⟩
  ·exact .inl h1
  ·refine .inr ?_
   rcases (hq q h1).2 with ⟨e,_⟩ | ⟨b,o,f1,f2,f3,f4,f5,f6,e⟩
   ·rw [e] at h2; simp only at h2; omega
   ·rw [e] at h2
    have : b = y := by simp only at h2; omega
    subst this
    refine ⟨q,o,h1,f1,f3,f4,?_⟩
    have := in_ins f5
    rw [f6] at this; exact this
 have hsg : inL gone s = false := by
  rw [<- Bool.not_eq_true]
  intro hh
  rcases hgby s hh with h1 | ⟨q,o,_,_,h3,_⟩
  ·exact C.js h1.symm
  ·rw [hgs] at h3; cases h3
 have hojs : oj ∉ outsW w.ls s := fun hh => C.js (by have := (outsW_lt hh).2; rw [hojf] at this; omega)
 have hojj : oj ∉ insW w.ls j := by
  intro hh
  obtain ⟨q,h1,h2⟩ := hall oj hh
  rcases (hq q h1).2 with ⟨e,_⟩ | ⟨b,o,f1,f2,f3,f4,f5,f6,e⟩
  ·rw [e] at h2; simp only at h2; subst h2; exact hojs h1
  ·rw [e] at h2; simp only at h2; subst h2
   have := (outsW_lt ((f4.outs o).2 rfl)).2
   rw [hojf] at this
   have : j = b := by omega
   subst this
   rw [hgj] at f3; cases f3
 have hojc : oj ∉ cut := fun hh => by rcases (hmc oj).1 hh with h1 | h1; exact hojs h1; exact hojj h1
 have hincut : ∀ (x : Nat) k,inL gone x = false -> k ∈ insW w.ls x -> k ∉ cut := by
  intro x k hxg hkx hc
  rcases (hmc k).1 hc with h1 | h1
  ·have hto := (ins_lt hkx).2
   rcases (hq k h1).2 with ⟨_,e⟩ | ⟨b,o,f1,f2,f3,f4,f5,f6,e⟩
   ·rw [e] at hto
    have : x = j := by omega
    subst this
    rw [(hmg x).2 (.inl rfl)] at hxg; cases hxg
   ·rw [f1] at hto
    have : x = b := by omega
    subst this
    rw [(hmg x).2 (.inr ⟨k,h1,by rw [e]⟩)] at hxg; cases hxg
  ·have h2 := (ins_lt h1).2
   have h3 := (ins_lt hkx).2
   have : x = j := by omega
   subst this
   rw [(hmg x).2 (.inl rfl)] at hxg; cases hxg
 have houtcut : ∀ (x : Nat) k,inL gone x = false -> x ≠ s -> k ∈ outsW w.ls x -> k ∉ cut := by
  intro x k hxg hxs hkx hc
  have hfr := (outsW_lt hkx).2
  rcases (hmc k).1 hc with h1 | h1
  ·have := (outsW_lt h1).2; omega
  ·obtain ⟨q,h2,h3⟩ := hall k h1
   rcases (hq q h2).2 with ⟨e,_⟩ | ⟨b,o,f1,f2,f3,f4,f5,f6,e⟩
   ·rw [e] at h3; simp only at h3; subst h3
    have := hfrs q h2; omega
   ·rw [e] at h3; simp only at h3; subst h3
    have := (outsW_lt ((f4.outs o).2 rfl)).2
    have : x = b := by omega
    subst this
    rw [(hmg x).2 (.inr ⟨q,h2,by rw [e]⟩)] at hxg; cases hxg
 have hgin : ∀ (y : Nat) k,inL gone y = true -> k ∈ insW w.ls y -> k ∈ cut := by
  intro y k hy hk
  rcases hgby y hy with rfl | ⟨q,o,h1,h2,h3,h4,h5⟩
  ·exact (hmc k).2 (.inr hk)
  ·rw [(h4.ins k).1 hk]; exact (hmc q).2 (.inl h1)
 have hgout : ∀ (y : Nat) k,inL gone y = true -> k ∈ outsW w.ls y -> k ∈ cut ∨ k = oj := by
  intro y k hy hk
  rcases hgby y hy with rfl | ⟨q,o,h1,h2,h3,h4,h5⟩
  ·exact .inr ((hojm k).1 hk)
  ·rw [(h4.outs k).1 hk]; exact .inl ((hmc o).2 (.inr h5))
 have hB : ∃ B : Blk,B = .mk (blockOf k) (nodeW w.ks s) 0 ((waysW w s).map (pieceW w k)) [] := ⟨_,rfl⟩
 obtain ⟨B,hB⟩ := hB
 rw [<- hB]
 have hBk : B.kd = 4 ∨ B.kd = 5 ∨ B.kd = 6 := by
  rw [hB,Blk.kd]; unfold blockOf; split
  ·exact .inr (.inl rfl)
  ·split
   ·exact .inl rfl
   ·exact .inr (.inr rfl)
 have hBok : okK B := by
  rw [hB,okK,hnode]
  have := hG.1
  refine ⟨by have h9 := hBk; rw [hB,Blk.kd] at h9; omega,by omega,by omega,rfl,okKs_iff.2 fun y hy => ?_⟩
  obtain ⟨z,_,rfl⟩ := List.mem_map.1 hy
  exact piece_ok h k z
 obtain ⟨sp1,sp2⟩ := sum_parts h k (outsW w.ls s) fun q hqm => (hq q hqm).1
 have hBs : szB B + ((outsW w.ls s).filterMap fun q => byN (followW w q)).length <= 1 + (((outsW w.ls s).filterMap fun q => byN (followW w q)).map (sizeAt w.ks)).sum + (outsW w.ls s).length := by
  rw [hB,szB,waysW,List.map_map]
  have e : (outsW w.ls s).map (pieceW w k ∘ followW w) = (outsW w.ls s).map fun q => pieceW w k (followW w q) := rfl
  rw [e]; omega
 have hbyn : ((outsW w.ls s).filterMap fun q => byN (followW w q)).Nodup := by
  refine nodup_filterMap (outs_nodup _ _) fun q hqm q' hqm' y h1 h2 => ?_
  rcases (hq q hqm).2 with ⟨e,_⟩ | ⟨b,o,f1,f2,f3,f4,f5,f6,e⟩
  ·rw [e] at h1; cases h1
  rcases (hq q' hqm').2 with ⟨e',_⟩ | ⟨b',o',f1',f2',f3',f4',f5',f6',e'⟩
  ·rw [e'] at h2; cases h2
  rw [e] at h1; rw [e'] at h2
  simp [byN] at h1 h2
  subst h1; subst h2
  have h3 := in_ins (hq q hqm).1
  rw [f1] at h3
  exact (f4'.ins q).1 h3
 generalize hL : (outsW w.ls s).filterMap (fun q => byN (followW w q)) = L at *
 have hLg : ∀ y ∈ L,inL gone y = true /\ y ≠ s /\ y ≠ j := by
  intro y hy
  rw [<- hL] at hy
  obtain ⟨q,h1,h2⟩ := List.mem_filterMap.1 hy
  rcases (hq q h1).2 with ⟨e,_⟩ | ⟨b,o,f1,f2,f3,f4,f5,f6,e⟩
  ·rw [e] at h2; cases h2
  ·rw [e] at h2
   simp [byN] at h2
   subst h2
   refine ⟨(hmg b).2 (.inr ⟨q,h1,by rw [e]⟩),?_,?_⟩
   ·rintro rfl; rw [hgs] at f3; cases f3
   ·rintro rfl; rw [hgj] at f3; cases f3
 have hLo : ((outsW w.ls s).filterMap fun q => lastN (followW w q)).Nodup := by
  refine nodup_filterMap (outs_nodup _ _) fun q hqm q' hqm' y h1 h2 => hlinj q hqm q' hqm' ?_
  unfold lastN at h1 h2
  split at h1
  case isFalse => cases h1
  split at h2
  case isFalse => cases h2
  rw [sij h1,sij h2]
 have hLoM : ∀ y ∈ (outsW w.ls s).filterMap (fun q => lastN (followW w q)),y ∈ insW w.ls j /\ y ∉ outsW w.ls s := by
  intro y hy
  obtain ⟨q,h1,h2⟩ := List.mem_filterMap.1 hy
  rcases (hq q h1).2 with ⟨e,_⟩ | ⟨b,o,f1,f2,f3,f4,f5,f6,e⟩
  ·rw [e] at h2; cases h2
  ·rw [e] at h2
   simp [lastN] at h2
   subst h2
   refine ⟨by have := in_ins f5; rw [f6] at this; exact this,fun hh => ?_⟩
   have h3 := (outsW_lt hh).2
   have h4 := (outsW_lt ((f4.outs o).2 rfl)).2
   have : b = s := by omega
   subst this
   rw [hgs] at f3; cases f3
 have hsl : (setFrom w.ls oj s).length = w.ls.length := by simp [setFrom]
 have hcutl := cut_len (ls := setFrom w.ls oj s) (gone := inL gone) (cut := cut) (C := outsW w.ls s ++ (outsW w.ls s).filterMap fun q => lastN (followW w q))
  (List.nodup_append.2 ⟨outs_nodup _ _,hLo,fun a ha b hb e => (hLoM b hb).2 (e ▸ ha)⟩) (by
   intro y hy
   rw [hsl]
   rcases List.mem_append.1 hy with h1 | h1
   ·exact ⟨(hmc y).2 (.inl h1),(outsW_lt h1).1⟩
   ·exact ⟨(hmc y).2 (.inr (hLoM y h1).1),(ins_lt (hLoM y h1).1).1⟩)
 rw [hsl,List.length_append,sp2] at hcutl
 have htwo := C.two
 have he : ∀ k' l,(setFrom w.ls oj s)[k']? = some l -> k' ∉ cut -> EndsKept (inL gone) l := by
  intro k' l hk' hc
  replace hk' : (setFrom w.ls oj s)[k']? = some l := hk'
  have key : ∀ y : Int,(∀ z : Nat,y = z -> inL gone z = true -> False) -> 0 <= y -> inL gone y.toNat = false := fun y hy h0 => by
   rw [<- Bool.not_eq_true]
   exact hy y.toNat (by omega)
  rcases (mem_setFrom hojl).1 hk' with ⟨rfl,rfl⟩ | ⟨h1,h2⟩
  ·refine ⟨key _ fun z e hz => ?_,key _ fun z e hz => ?_⟩
   ·simp only at e
    have : z = s := by omega
    subst this; rw [hsg] at hz; cases hz
   ·refine hc (hgin z k' hz ?_)
    have := in_ins hojl
    rw [toW,show (lkW w.ls k').2.1 = z from e] at this
    exact this
  ·refine ⟨key _ fun z e hz => ?_,key _ fun z e hz => ?_⟩
   ·rcases hgout z k' hz (mem_outs.2 ⟨l,h2,e⟩) with h3 | h3
    ·exact hc h3
    ·exact h1 h3
   ·exact hc (hgin z k' hz (mem_ins.2 ⟨l,h2,e⟩))
 have hs1 : Shp w (dropW ⟨w.ks.set s B,setFrom w.ls oj s⟩ gone cut) s B gone cut oj (j :: L) := by
  refine ⟨rfl,hs,hsg,hojl,hojc,⟨j,hojf,(hmg j).2 (.inl rfl)⟩,List.nodup_cons.2 ⟨fun hh => (hLg j hh).2.2 rfl,hbyn⟩,fun y => ⟨fun hy => ?_,fun hy => ?_⟩,fun y hy => ?_,houtcut,fun k' hk' => ?_,he⟩
  ·rcases (hmg y).1 hy with h1 | ⟨q,h1,h2⟩
   ·rw [h1]; exact mcs
   ·refine mcm _ ?_
    rw [<- hL]
    exact List.mem_filterMap.2 ⟨q,h1,by rw [byN,if_pos (by omega),h2]; simp⟩
  ·rcases List.mem_cons.1 hy with rfl | hy
   ·exact (hmg y).2 (.inl rfl)
   ·exact (hLg y hy).1
  ·rcases List.mem_cons.1 hy with rfl | hy
   ·exact C.jl
   ·rw [<- hL] at hy
    obtain ⟨q,h1,h2⟩ := List.mem_filterMap.1 hy
    rcases (hq q h1).2 with ⟨e,_⟩ | ⟨b,o,f1,f2,f3,f4,f5,f6,e⟩
    ·rw [e] at h2; cases h2
    ·rw [e] at h2
     simp [byN] at h2
     omega
  ·rcases (hmc k').1 hk' with h1 | h1
   ·have h2 := outsW_lt h1
    refine ⟨h2.1,by omega,?_⟩
    rcases (hq k' h1).2 with ⟨_,e⟩ | ⟨b,o,f1,_⟩
    ·omega
    ·omega
   ·have h2 := ins_lt h1
    refine ⟨h2.1,?_,by omega⟩
    obtain ⟨q,h3,h4⟩ := hall k' h1
    rcases (hq q h3).2 with ⟨e,_⟩ | ⟨b,o,f1,f2,f3,f4,f5,f6,e⟩
    ·rw [e] at h4; simp only at h4; subst h4
     have := hfrs q h3; omega
    ·rw [e] at h4; simp only at h4; subst h4
     have := (outsW_lt ((f4.outs o).2 rfl)).2; omega
 refine ⟨⟨inv_drop ?_ he ?_ ?_ ?_,Nat.lt_of_lt_of_le (Nat.lt_add_of_pos_right (by omega)) hcutl,drop_ne (i := s) (by show s < (w.ks.set s B).length; rw [lls]; exact hs) hsg⟩,⟨j,gone,cut,oj,C,hs1⟩⟩
 ·show ∀ l ∈ setFrom w.ls oj s,_
  rw [lls]
  refine setFrom_rng h.rng fun hk => ?_
  have h9 := h.rng _ (mog (lk_of hk))
  refine ⟨⟨?_,?_⟩,h9.2⟩
  ·show (-1 : Int) <= (s : Int); omega
  ·show (s : Int) < _; omega
 ·intro x c hcx hg
  replace hcx : (w.ks.set s B)[x]? = some c := hcx
  show KidOk n c ((insW (setFrom w.ls oj s) x).filter fun k => !cut.contains k).length ((outsW (setFrom w.ls oj s) x).filter fun k => !cut.contains k).length
  have hcc : ∀ k,(!cut.contains k) = true ↔ k ∉ cut := fun k => by simp
  have ein : ((insW (setFrom w.ls oj s) x).filter fun k => !cut.contains k).length = (insW w.ls x).length :=
   same_len (nodup_filter _ (ins_nodup _ _)) (ins_nodup _ _) fun k => by
    rw [List.mem_filter,setFrom_ins hojl,hcc]
    exact ⟨fun hh => hh.1,fun hh => ⟨hh,hincut x k hg hh⟩⟩
  rw [ein]
  by_cases hxs : x = s
  ·subst hxs
   have eout : ((outsW (setFrom w.ls oj x) x).filter fun k => !cut.contains k).length = 1 :=
    one_len (c := oj) (nodup_filter _ (outs_nodup _ _)) fun k => by
     rw [List.mem_filter,setFrom_outs hojl,hcc]
     constructor
     ·rintro ⟨⟨rfl,_⟩ | ⟨h1,h2⟩,h3⟩
      ·rfl
      ·exact absurd ((hmc k).2 (.inl h2)) h3
     ·rintro rfl
      exact ⟨.inl ⟨rfl,rfl⟩,hojc⟩
   rw [eout]
   rw [gss hs] at hcx
   obtain rfl := sij hcx
   exact ⟨hBok,by omega,fun e => by omega,fun _ => ⟨hins1,rfl⟩,fun e => by omega⟩
  ·rw [List.getElem?_set_ne (Ne.symm hxs)] at hcx
   have eout : ((outsW (setFrom w.ls oj s) x).filter fun k => !cut.contains k).length = (outsW w.ls x).length :=
    same_len (nodup_filter _ (outs_nodup _ _)) (outs_nodup _ _) fun k => by
     rw [List.mem_filter,setFrom_outs hojl,hcc]
     constructor
     ·rintro ⟨⟨rfl,h1⟩ | ⟨h1,h2⟩,h3⟩
      ·exact absurd (show x = s by omega) hxs
      ·exact h2
     ·intro hh
      refine ⟨.inr ⟨fun e => ?_,hh⟩,houtcut x k hg hxs hh⟩
      subst e
      have := (outsW_lt hh).2
      have : x = j := by omega
      subst this
      rw [(hmg x).2 (.inl rfl)] at hg; cases hg
   rw [eout]
   exact h.kid x c hcx
 ·have h1 := drop_size (ks := w.ks.set s B) (gone := inL gone) (L := j :: L) (List.nodup_cons.2 ⟨fun hh => (hLg j hh).2.2 rfl,hbyn⟩) (fun y hy => by
   rcases List.mem_cons.1 hy with rfl | hy
   ·exact (hmg y).2 (.inl rfl)
   ·exact (hLg y hy).1)
  have e : L.map (sizeAt (w.ks.set s B)) = L.map (sizeAt w.ks) := List.map_congr_left fun y hy => sizeAt_set (hLg y hy).2.1
  rw [List.map_cons,List.sum_cons,e,sizeAt_set C.js,sizeAt_get hbj] at h1
  have h2 := set_size (c := B) hbs
  have := h.size
  have := szB_pos bj
  have := szB_pos bs
  show sizeW (dropK (inL gone) 0 (w.ks.set s B)) + (dropL (inL gone) cut.contains 0 (setFrom w.ls oj s)).length <= 64
  omega
 ·exact ⟨by show (w.ks.set s B).length <= 24; rw [lls]; exact h.lens.1,by show (setFrom w.ls oj s).length <= 40; rw [hsl]; exact h.lens.2⟩
theorem two_inv {n : Nt} {w x : Wb} (hG : Gates n) (h : InvW n w) {s : Nat} (hs : s < w.ks.length) (hx : twoAt n w s = some x) : InvW n x /\ x.ls.length < w.ls.length /\ x.ks ≠ [] := (two_all hG h hs hx).1
theorem two_list {l : List Nat} (h : l.length = 2) : l = [l.getD 0 0,l.getD 1 0] := by
 match l,h with
 | [a,b],_ => rfl
theorem three_all {n : Nt} {w x : Wb} (hG : Gates n) (h : InvW n w) {j : Nat} (hj : j < w.ks.length) (hx : threeAt n w j = some x) : (InvW n x /\ x.ls.length < w.ls.length /\ x.ks ≠ []) /\ ∃ (B : Blk) (gone : List Int) (cut : List Nat) (p : Nat) (L : List Nat) (s : Nat) (lv : Nat) (d g : Wz),lv <= 1 /\ (∃ q1,q1 < w.ls.length /\ followW w q1 = d) /\ (∃ q2,q2 < w.ls.length /\ followW w q2 = g) /\ s ∈ L /\ gkW n w s = 5 /\ (outsW w.ls s).length = 2 /\ gkW n w j = 5 /\ B = .mk 7 (nodeW w.ks s) lv [partW w d,partW w g] [] /\ (∀ f : Blk -> Nat,f emptyB = 0 -> f (partW w d) + f (partW w g) + atF f w.ks s = (L.map (atF f w.ks)).sum) /\ Shp w x j B gone cut p L := by
 unfold threeAt at hx
 split at hx
 ·cases hx
 rename_i hc1
 simp only [Bool.or_eq_true,bne_iff_ne,ne_eq,not_or,Decidable.not_not] at hc1
 obtain ⟨⟨gj5,hin2⟩,hout1⟩ := hc1
 simp only at hx
 split at hx
 ·cases hx
 rename_i hc2
 simp only [Bool.or_eq_true,bne_iff_ne,ne_eq,not_or,Decidable.not_not] at hc2
 obtain ⟨gs5,hout2⟩ := hc2
 split at hx
 ·cases hx
 rename_i hne
 obtain rfl := sij hx
 obtain ⟨bj,hbj,hgj,hbj8,_⟩ := gate_ok hG h (s := j) (by rw [gj5]; decide)
 have houtj := hd_one hout1
 generalize ho1 : hd (outsW w.ls j) = o1 at *
 have hojm : ∀ k,k ∈ outsW w.ls j ↔ k = o1 := fun k => by rw [houtj]; simp
 obtain ⟨ho1l,ho1f⟩ := outsW_lt ((hojm o1).2 rfl)
 obtain ⟨s,hs⟩ : ∃ s : Nat,(followW w o1).to = s := by
  refine ⟨(followW w o1).to.toNat,?_⟩
  have : ¬ (followW w o1).to < 0 := by
   intro hh
   rw [gkW,gateW,kidW,if_pos hh] at gs5
   simp at gs5
  omega
 rw [hs] at gs5 hout2 hne ⊢
 obtain ⟨bs,hbs,hgs,hbs8,hnode,_,hnr,_,hcnt⟩ := gate_ok hG h (s := s) (by rw [gs5]; decide)
 have hslt : s < w.ks.length := (gsi.1 hbs).1
 have hins1 : (insW w.ls s).length = 1 := by
  rcases hcnt with hh | hh
  ·exact hh.1
  ·omega
 have hsj : s ≠ j := by rintro rfl; omega
 have hd : (followW w o1 = ⟨s,-1,o1⟩ /\ toW w.ls o1 = s) ∨ ∃ b o : Nat,toW w.ls o1 = b /\ b < w.ks.length /\ gateW w.ks b = false /\ Single w b o1 o /\ o < w.ls.length /\ toW w.ls o = s /\ followW w o1 = ⟨s,b,o⟩ := by
  rcases follow_cases h ho1l with ⟨e,_⟩ | ⟨b,o,e1,e2,e3,e4,e5,e6⟩
  ·rw [e] at hs
   simp only at hs
   exact .inl ⟨by rw [e,hs],hs⟩
  ·rw [e6] at hs
   simp only at hs
   exact .inr ⟨b,o,e1,e2,e3,e4,e5,hs,by rw [e6,hs]⟩
 generalize hdd : followW w o1 = d at *
 have hdl : d.last ∈ insW w.ls s := by
  rcases hd with ⟨e,e2⟩ | ⟨b,o,_,_,_,_,ol,e2,e⟩
  ·rw [e]; have := in_ins ho1l; rw [e2] at this; exact this
  ·rw [e]; have := in_ins ol; rw [e2] at this; exact this
 have hsin : ∀ k,k ∈ insW w.ls s ↔ k = d.last := fun k => by
  have e := hd_one hins1
  rw [e] at hdl ⊢
  simp only [List.mem_singleton] at hdl ⊢
  rw [hdl]
 have hso := two_list hout2
 generalize hoa : (outsW w.ls s).getD 0 0 = oa at *
 generalize hob : (outsW w.ls s).getD 1 0 = ob at *
 have hsom : ∀ k,k ∈ outsW w.ls s ↔ k = oa ∨ k = ob := fun k => by rw [hso]; simp
 have hab : oa ≠ ob := by
  have := outs_nodup w.ls s
  rw [hso] at this
  simpa using this
 obtain ⟨q,p,lv,hlv1,hqp,hqb,hpb,hg,hpd,hbk,hlv⟩ : ∃ (q p : Nat) (lv : Nat),lv <= 1 /\ (q = oa /\ p = ob ∨ q = ob /\ p = oa) /\ (followW w q).to = j /\ (followW w p).to ≠ j ∧
   (if ((followW w ob).to == (j : Int)) = true then followW w ob else followW w oa) = followW w q /\ (outsW w.ls s).getD lv 0 = p /\ (outsW w.ls s).getD (1 - lv) 0 = q ∧
   (if ((followW w ob).to == (j : Int)) = true then 0 else 1) = lv := by
  by_cases hb : ((followW w ob).to == (j : Int)) = true
  ·refine ⟨ob,oa,0,by omega,.inr ⟨rfl,rfl⟩,by simpa using hb,fun e => hne ?_,if_pos hb,hoa,hob,if_pos hb⟩
   rw [hb,e]; simp
  ·refine ⟨oa,ob,1,by omega,.inl ⟨rfl,rfl⟩,?_,fun e => hb (by rw [e]; simp),if_neg hb,hob,hoa,if_neg hb⟩
   have : ¬ ((followW w oa).to == (j : Int)) = false := fun e => hne (by rw [e]; simpa using hb)
   simpa using this
 rw [hg,hlv,hpd,hbk]
 have hqp' : q ≠ p := by rcases hqp with ⟨rfl,rfl⟩ | ⟨rfl,rfl⟩; exact hab; exact Ne.symm hab
 have hqm : q ∈ outsW w.ls s := (hsom q).2 (by rcases hqp with ⟨rfl,rfl⟩ | ⟨rfl,rfl⟩; exact .inl rfl; exact .inr rfl)
 have hpm : p ∈ outsW w.ls s := (hsom p).2 (by rcases hqp with ⟨rfl,rfl⟩ | ⟨rfl,rfl⟩; exact .inr rfl; exact .inl rfl)
 have hsom' : ∀ k,k ∈ outsW w.ls s ↔ k = q ∨ k = p := fun k => by
  rw [hsom]; rcases hqp with ⟨rfl,rfl⟩ | ⟨rfl,rfl⟩; exact Iff.rfl; exact Or.comm
 obtain ⟨hql,hqf⟩ := outsW_lt hqm
 obtain ⟨hpl,hpf⟩ := outsW_lt hpm
 clear hg hlv hpd hbk hne hqp hsom hso hoa hob hab
 have hgq : (followW w q = ⟨j,-1,q⟩ /\ toW w.ls q = j) ∨ ∃ b o : Nat,toW w.ls q = b /\ b < w.ks.length /\ gateW w.ks b = false /\ Single w b q o /\ o < w.ls.length /\ toW w.ls o = j /\ followW w q = ⟨j,b,o⟩ := by
  rcases follow_cases h hql with ⟨e,_⟩ | ⟨b,o,e1,e2,e3,e4,e5,e6⟩
  ·rw [e] at hqb
   simp only at hqb
   exact .inl ⟨by rw [e,hqb],hqb⟩
  ·rw [e6] at hqb
   simp only at hqb
   exact .inr ⟨b,o,e1,e2,e3,e4,e5,hqb,by rw [e6,hqb]⟩
 have hpj : toW w.ls p ≠ j := by
  intro e
  have : followW w p = ⟨j,-1,p⟩ := by rw [followW,if_pos (by rw [e,hgj]; simp),e]
  rw [this] at hpb; exact hpb rfl
 generalize hgg : followW w q = g at *
 have hgl : g.last ∈ insW w.ls j := by
  rcases hgq with ⟨e,e2⟩ | ⟨b,o,_,_,_,_,ol,e2,e⟩
  ·rw [e]; have := in_ins hql; rw [e2] at this; exact this
  ·rw [e]; have := in_ins ol; rw [e2] at this; exact this
 have hmg : ∀ y : Nat,inL ([(s : Int)] ++ [d.by_,g.by_].filter fun x => decide (0 <= x)) y = true ↔ y = s ∨ d.by_ = y ∨ g.by_ = y := by
  intro y
  rw [inL_nat,List.mem_append,List.mem_singleton,List.mem_filter]
  simp only [List.mem_cons,List.not_mem_nil,or_false,dqE]
  omega
 have hmc : ∀ k,k ∈ [o1,d.last,q,g.last] ↔ k = o1 ∨ k = d.last ∨ k = q ∨ k = g.last := fun k => by simp
 generalize hgone : ([(s : Int)] ++ [d.by_,g.by_].filter fun x => decide (0 <= x)) = gone at hmg ⊢
 generalize hcut : [o1,d.last,q,g.last] = cut at hmc ⊢
 have hgby : ∀ y : Nat,inL gone y = true -> y = s ∨ (gateW w.ks y = false /\ ((Single w y o1 d.last /\ d.by_ = y /\ toW w.ls o1 = y) ∨ (Single w y q g.last /\ g.by_ = y /\ toW w.ls q = y))) := by
  intro y hy
  rcases (hmg y).1 hy with h1 | h1 | h1
  ·exact .inl h1
  ·rcases hd with ⟨e,_⟩ | ⟨b,o,f1,f2,f3,f4,f5,f6,e⟩
   ·rw [e] at h1; simp only at h1; omega
   ·rw [e] at h1 ⊢
    have : b = y := by simp only at h1; omega
    subst this
    exact .inr ⟨f3,.inl ⟨f4,rfl,f1⟩⟩
  ·rcases hgq with ⟨e,_⟩ | ⟨b,o,f1,f2,f3,f4,f5,f6,e⟩
   ·rw [e] at h1; simp only at h1; omega
   ·rw [e] at h1 ⊢
    have : b = y := by simp only at h1; omega
    subst this
    exact .inr ⟨f3,.inr ⟨f4,rfl,f1⟩⟩
 have hjg : inL gone j = false := by
  rw [<- Bool.not_eq_true]
  intro hh
  rcases hgby j hh with h1 | ⟨h1,_⟩
  ·exact hsj h1.symm
  ·rw [hgj] at h1; cases h1
 have hsgone : inL gone s = true := (hmg s).2 (.inl rfl)
 have hfd : ∀ y : Nat,(lkW w.ls d.last).1 = y -> y = j ∨ inL gone y = true := by
  intro y hy
  rcases hd with ⟨e,_⟩ | ⟨b,o,f1,f2,f3,f4,f5,f6,e⟩
  ·rw [e,ho1f] at hy; exact .inl (by omega)
  ·rw [e] at hy
   have := (outsW_lt ((f4.outs o).2 rfl)).2
   have : b = y := by simp only at hy; omega
   subst this
   exact .inr ((hmg b).2 (.inr (.inl (by rw [e]))))
 have hfg : ∀ y : Nat,(lkW w.ls g.last).1 = y -> inL gone y = true := by
  intro y hy
  rcases hgq with ⟨e,_⟩ | ⟨b,o,f1,f2,f3,f4,f5,f6,e⟩
  ·rw [e,hqf] at hy
   have : s = y := by omega
   subst this; exact hsgone
  ·rw [e] at hy
   have := (outsW_lt ((f4.outs o).2 rfl)).2
   have : b = y := by simp only at hy; omega
   subst this
   exact (hmg b).2 (.inr (.inr (by rw [e])))
 have htd : ∀ y : Nat,toW w.ls o1 = y -> inL gone y = true := by
  intro y hy
  rcases hd with ⟨e,e2⟩ | ⟨b,o,f1,f2,f3,f4,f5,f6,e⟩
  ·have : s = y := Int.ofNat_inj.1 (e2.symm.trans hy)
   subst this; exact hsgone
  ·have : b = y := Int.ofNat_inj.1 (f1.symm.trans hy)
   subst this
   exact (hmg b).2 (.inr (.inl (by rw [e])))
 have htq : ∀ y : Nat,toW w.ls q = y -> y = j /\ g.last = q ∨ inL gone y = true := by
  intro y hy
  rcases hgq with ⟨e,e2⟩ | ⟨b,o,f1,f2,f3,f4,f5,f6,e⟩
  ·exact .inl ⟨by omega,by rw [e]⟩
  ·have : b = y := by omega
   subst this
   exact .inr ((hmg b).2 (.inr (.inr (by rw [e]))))
 have hgin : ∀ (y : Nat) k,inL gone y = true -> k ∈ insW w.ls y -> k ∈ cut := by
  intro y k hy hk
  rcases hgby y hy with rfl | ⟨_,⟨h4,_⟩ | ⟨h4,_⟩⟩
  ·exact (hmc k).2 (.inr (.inl ((hsin k).1 hk)))
  ·exact (hmc k).2 (.inl ((h4.ins k).1 hk))
  ·exact (hmc k).2 (.inr (.inr (.inl ((h4.ins k).1 hk))))
 have hgout : ∀ (y : Nat) k,inL gone y = true -> k ∈ outsW w.ls y -> k ∈ cut ∨ k = p := by
  intro y k hy hk
  rcases hgby y hy with rfl | ⟨_,⟨h4,_⟩ | ⟨h4,_⟩⟩
  ·rcases (hsom' k).1 hk with h5 | h5
   ·exact .inl ((hmc k).2 (.inr (.inr (.inl h5))))
   ·exact .inr h5
  ·exact .inl ((hmc k).2 (.inr (.inl ((h4.outs k).1 hk))))
  ·exact .inl ((hmc k).2 (.inr (.inr (.inr ((h4.outs k).1 hk)))))
 have hpc : p ∉ cut := by
  intro hh
  rcases (hmc p).1 hh with h1 | h1 | h1 | h1
  ·rw [h1,ho1f] at hpf; exact hsj (Int.ofNat_inj.1 hpf.symm)
  ·rcases hd with ⟨e,_⟩ | ⟨b,o,f1,f2,f3,f4,f5,f6,e⟩
   ·rw [e] at h1; simp only at h1; rw [h1,ho1f] at hpf; exact hsj (Int.ofNat_inj.1 hpf.symm)
   ·rw [e] at h1; simp only at h1
    have h2 := (outsW_lt ((f4.outs o).2 rfl)).2
    rw [<- h1,hpf] at h2
    have : s = b := by omega
    subst this; rw [hgs] at f3; cases f3
  ·exact hqp' h1.symm
  ·rcases hgq with ⟨e,_⟩ | ⟨b,o,f1,f2,f3,f4,f5,f6,e⟩
   ·rw [e] at h1; exact hqp' h1.symm
   ·rw [e] at h1; simp only at h1
    have h2 := (outsW_lt ((f4.outs o).2 rfl)).2
    rw [<- h1,hpf] at h2
    have : s = b := by omega
    subst this; rw [hgs] at f3; cases f3
 have hincut : ∀ (x : Nat) k,inL gone x = false -> k ∈ insW w.ls x -> k ∈ cut -> x = j /\ k = g.last := by
  intro x k hxg hkx hc
  have hto := (ins_lt hkx).2
  rcases (hmc k).1 hc with rfl | rfl | rfl | rfl
  ·rw [htd x hto] at hxg; cases hxg
  ·have := (ins_lt hdl).2
   have : x = s := by omega
   subst this; rw [hsgone] at hxg; cases hxg
  ·rcases htq x hto with ⟨h1,h2⟩ | h1
   ·exact ⟨h1,h2.symm⟩
   ·rw [h1] at hxg; cases hxg
  ·have := (ins_lt hgl).2
   exact ⟨by omega,rfl⟩
 have houtcut : ∀ (x : Nat) k,inL gone x = false -> x ≠ j -> k ∈ outsW w.ls x -> k ∉ cut := by
  intro x k hxg hxj hkx hc
  have hfr := (outsW_lt hkx).2
  rcases (hmc k).1 hc with rfl | rfl | rfl | rfl
  ·rw [ho1f] at hfr; omega
  ·rcases hfd x hfr with h1 | h1
   ·exact hxj h1
   ·rw [h1] at hxg; cases hxg
  ·rw [hqf] at hfr
   have : s = x := by omega
   subst this; rw [hsgone] at hxg; cases hxg
  ·rw [hfg x hfr] at hxg; cases hxg
 have hBs : ∃ (L C : List Nat),L.Nodup /\ C.Nodup /\ (∀ y ∈ L,inL gone y = true /\ y ≠ j) /\ (∀ k ∈ C,k ∈ cut /\ k < w.ls.length) /\ 2 <= C.length /\ (∀ y : Nat,(y = s ∨ d.by_ = y ∨ g.by_ = y) -> y ∈ L) /\ (∀ y ∈ L,y < w.ks.length) /\ (∀ f : Blk -> Nat,f emptyB = 0 -> f (partW w d) + f (partW w g) + atF f w.ks s = (L.map (atF f w.ks)).sum) ∧
   szB (partW w d) + szB (partW w g) + szB bs + 2 <= (L.map (sizeAt w.ks)).sum + C.length + 2 := by
  have hsz : sizeAt w.ks s = szB bs := sizeAt_get hbs
  have hem : ∀ (t : Int) (l : Nat),szB (partW w ⟨t,-1,l⟩) = 1 := fun t l => rfl
  have hkb : ∀ (t : Int) (b l : Nat),b < w.ks.length -> szB (partW w ⟨t,b,l⟩) = sizeAt w.ks b := fun t b l hb => by
   rw [partW,kid_nat,gge hb,sizeAt_get (gge hb)]; rfl
  have hkf : ∀ (f : Blk -> Nat) (t : Int) (b l : Nat),b < w.ks.length -> f (partW w ⟨t,b,l⟩) = atF f w.ks b := fun f t b l hb => by
   rw [partW,kid_nat,gge hb,atF,gge hb]; rfl
  have hef : ∀ (f : Blk -> Nat) (t : Int) (l : Nat),f (partW w ⟨t,-1,l⟩) = f emptyB := fun f t l => rfl
  have hoq : o1 ≠ q := by
   intro e
   rw [e,hqf] at ho1f; exact hsj (Int.ofNat_inj.1 ho1f)
  have hmo : o1 ∈ cut /\ o1 < w.ls.length := ⟨(hmc o1).2 (.inl rfl),ho1l⟩
  have hmq : q ∈ cut /\ q < w.ls.length := ⟨(hmc q).2 (.inr (.inr (.inl rfl))),hql⟩
  have hms : inL gone s = true /\ s ≠ j := ⟨hsgone,hsj⟩
  have hmd : d.last ∈ cut /\ d.last < w.ls.length := ⟨(hmc _).2 (.inr (.inl rfl)),(ins_lt hdl).1⟩
  have hml : g.last ∈ cut /\ g.last < w.ls.length := ⟨(hmc _).2 (.inr (.inr (.inr rfl))),(ins_lt hgl).1⟩
  rcases hd with ⟨e,e2⟩ | ⟨b,o,f1,f2,f3,f4,f5,f6,e⟩ <;> rcases hgq with ⟨e',e2'⟩ | ⟨b',o',f1',f2',f3',f4',f5',f6',e'⟩
  ·refine ⟨[s],[o1,q],by simp,by simpa using hoq,fun y hy => ?_,fun k hk => ?_,by simp,fun y hy => by rw [e,e'] at hy; simp only at hy; simp; omega,fun y hy => by simp at hy; omega,fun f h0 => by rw [e,e',hef f,hef f,h0]; simp,?_⟩
   ·rw [List.mem_singleton] at hy; subst hy; exact hms
   ·simp only [List.mem_cons,List.not_mem_nil,or_false] at hk
    rcases hk with rfl | rfl
    ·exact hmo
    ·exact hmq
   ·rw [e,e',hem,hem]; simp [hsz]; try omega
  ·have hb's : b' ≠ s := by rintro rfl; rw [hgs] at f3'; cases f3'
   have hb'j : b' ≠ j := by rintro rfl; rw [hgj] at f3'; cases f3'
   have hof := (outsW_lt ((f4'.outs o').2 rfl)).2
   refine ⟨[s,b'],[o1,q,o'],by simpa using Ne.symm hb's,?_,fun y hy => ?_,fun k hk => ?_,by simp,fun y hy => by rw [e,e'] at hy; simp only at hy; simp; omega,fun y hy => by simp at hy; omega,fun f h0 => by rw [e,e',hef f,h0,hkf f _ _ _ f2']; simp; omega,?_⟩
   ·simp only [List.nodup_cons,List.mem_cons,List.not_mem_nil,or_false,not_or,not_false_eq_true,List.nodup_nil,and_true]
    refine ⟨⟨hoq,fun e => ?_⟩,fun e => ?_⟩
    ·rw [<- e,ho1f] at hof; exact hb'j (Int.ofNat_inj.1 hof).symm
    ·rw [<- e,hqf] at hof; exact hb's (Int.ofNat_inj.1 hof).symm
   ·simp only [List.mem_cons,List.not_mem_nil,or_false] at hy
    rcases hy with rfl | rfl
    ·exact hms
    ·exact ⟨(hmg y).2 (.inr (.inr (by rw [e']))),hb'j⟩
   ·simp only [List.mem_cons,List.not_mem_nil,or_false] at hk
    rcases hk with rfl | rfl | rfl
    ·exact hmo
    ·exact hmq
    ·rw [e'] at hml; exact hml
   ·rw [e,e',hem,hkb _ _ _ f2']; simp [hsz]; try omega
  ·have hbs' : b ≠ s := by rintro rfl; rw [hgs] at f3; cases f3
   have hbj' : b ≠ j := by rintro rfl; rw [hgj] at f3; cases f3
   have hof := (outsW_lt ((f4.outs o).2 rfl)).2
   refine ⟨[s,b],[o1,q,o],by simpa using Ne.symm hbs',?_,fun y hy => ?_,fun k hk => ?_,by simp,fun y hy => by rw [e,e'] at hy; simp only at hy; simp; omega,fun y hy => by simp at hy; omega,fun f h0 => by rw [e,e',hef f,h0,hkf f _ _ _ f2]; simp; omega,?_⟩
   ·simp only [List.nodup_cons,List.mem_cons,List.not_mem_nil,or_false,not_or,not_false_eq_true,List.nodup_nil,and_true]
    refine ⟨⟨hoq,fun e => ?_⟩,fun e => ?_⟩
    ·rw [<- e,ho1f] at hof; exact hbj' (Int.ofNat_inj.1 hof).symm
    ·rw [<- e,hqf] at hof; exact hbs' (Int.ofNat_inj.1 hof).symm
   ·simp only [List.mem_cons,List.not_mem_nil,or_false] at hy
    rcases hy with rfl | rfl
    ·exact hms
    ·exact ⟨(hmg y).2 (.inr (.inl (by rw [e]))),hbj'⟩
   ·simp only [List.mem_cons,List.not_mem_nil,or_false] at hk
    rcases hk with rfl | rfl | rfl
    ·exact hmo
    ·exact hmq
    ·rw [e] at hmd; exact hmd
   ·rw [e,e',hem,hkb _ _ _ f2]; simp [hsz]; try omega
  ·have hbs' : b ≠ s := by rintro rfl; rw [hgs] at f3; cases f3
   have hbj' : b ≠ j := by rintro rfl; rw [hgj] at f3; cases f3
   have hof := (outsW_lt ((f4.outs o).2 rfl)).2
   have hb's : b' ≠ s := by rintro rfl; rw [hgs] at f3'; cases f3'
   have hb'j : b' ≠ j := by rintro rfl; rw [hgj] at f3'; cases f3'
   have hof' := (outsW_lt ((f4'.outs o').2 rfl)).2
   have hbb : b ≠ b' := by
    rintro rfl
    have h1 := in_ins hql
    rw [f1'] at h1
    exact hoq ((f4.ins q).1 h1).symm
   refine ⟨[s,b,b'],[o1,q,o,o'],?_,?_,fun y hy => ?_,fun k hk => ?_,by simp,fun y hy => by rw [e,e'] at hy; simp only at hy; simp; omega,fun y hy => by simp at hy; omega,fun f h0 => by rw [e,e',hkf f _ _ _ f2,hkf f _ _ _ f2']; simp; omega,?_⟩
   ·simp only [List.nodup_cons,List.mem_cons,List.not_mem_nil,or_false,not_or,not_false_eq_true,List.nodup_nil,and_true]
    exact ⟨⟨Ne.symm hbs',Ne.symm hb's⟩,hbb⟩
   ·simp only [List.nodup_cons,List.mem_cons,List.not_mem_nil,or_false,not_or,not_false_eq_true,List.nodup_nil,and_true]
    refine ⟨⟨hoq,fun e => ?_,fun e => ?_⟩,⟨fun e => ?_,fun e => ?_⟩,fun e => ?_⟩
    ·rw [<- e,ho1f] at hof; exact hbj' (Int.ofNat_inj.1 hof).symm
    ·rw [<- e,ho1f] at hof'; exact hb'j (Int.ofNat_inj.1 hof').symm
    ·rw [<- e,hqf] at hof; exact hbs' (Int.ofNat_inj.1 hof).symm
    ·rw [<- e,hqf] at hof'; exact hb's (Int.ofNat_inj.1 hof').symm
    ·rw [<- e,hof] at hof'; exact hbb (Int.ofNat_inj.1 hof')
   ·simp only [List.mem_cons,List.not_mem_nil,or_false] at hy
    rcases hy with rfl | rfl | rfl
    ·exact hms
    ·exact ⟨(hmg y).2 (.inr (.inl (by rw [e]))),hbj'⟩
    ·exact ⟨(hmg y).2 (.inr (.inr (by rw [e']))),hb'j⟩
   ·simp only [List.mem_cons,List.not_mem_nil,or_false] at hk
    rcases hk with rfl | rfl | rfl | rfl
    ·exact hmo
    ·exact hmq
    ·rw [e] at hmd; exact hmd
    ·rw [e'] at hml; exact hml
   ·rw [e,e',hkb _ _ _ f2,hkb _ _ _ f2']; simp [hsz]; try omega
 obtain ⟨L,C,hLn,hCn,hLg,hCc,hC2,hLa,hLl,hLf,hsum⟩ := hBs
 have hBok : okK (.mk 7 (nodeW w.ks s) lv [partW w d,partW w g] []) := by
  rw [okK,hnode]
  have := hG.1
  refine ⟨by omega,by omega,by omega,rfl,okKs_iff.2 fun y hy => ?_⟩
  simp only [List.mem_cons,List.not_mem_nil,or_false] at hy
  rcases hy with rfl | rfl
  ·exact part_ok h _
  ·exact part_ok h _
 have hBsz : szB (.mk 7 (nodeW w.ks s) lv [partW w d,partW w g] []) = 1 + (szB (partW w d) + szB (partW w g)) := by
  simp [szB,szB.szBs]
 have hBk : Blk.kd (.mk 7 (nodeW w.ks s) lv [partW w d,partW w g] []) = 7 := rfl
 generalize hBe : Blk.mk 7 (nodeW w.ks s) lv [partW w d,partW w g] [] = B at hBok hBsz hBk ⊢
 have hsl : (setFrom w.ls p j).length = w.ls.length := by simp [setFrom]
 have hcutl := cut_len (ls := setFrom w.ls p j) (gone := inL gone) (cut := cut) (C := C) hCn fun k hk => by rw [hsl]; exact hCc k hk
 rw [hsl] at hcutl
 have he : ∀ k' l,(setFrom w.ls p j)[k']? = some l -> k' ∉ cut -> EndsKept (inL gone) l := by
  intro k' l hk' hc
  replace hk' : (setFrom w.ls p j)[k']? = some l := hk'
  have key : ∀ y : Int,(∀ z : Nat,y = z -> inL gone z = true -> False) -> 0 <= y -> inL gone y.toNat = false := fun y hy h0 => by
   rw [<- Bool.not_eq_true]
   exact hy y.toNat (Int.toNat_of_nonneg h0).symm
  rcases (mem_setFrom hpl).1 hk' with ⟨rfl,rfl⟩ | ⟨h1,h2⟩
  ·refine ⟨key _ fun z e hz => ?_,key _ fun z e hz => ?_⟩
   ·have : j = z := Int.ofNat_inj.1 e
    subst this; rw [hjg] at hz; cases hz
   ·refine hc (hgin z k' hz ?_)
    have := in_ins hpl
    rw [toW,show (lkW w.ls k').2.1 = z from e] at this
    exact this
  ·refine ⟨key _ fun z e hz => ?_,key _ fun z e hz => ?_⟩
   ·rcases hgout z k' hz (mem_outs.2 ⟨l,h2,e⟩) with h3 | h3
    ·exact hc h3
    ·exact h1 h3
   ·exact hc (hgin z k' hz (mem_ins.2 ⟨l,h2,e⟩))
 have hs1 : Shp w (dropW ⟨w.ks.set j B,setFrom w.ls p j⟩ gone cut) j B gone cut p L := by
  refine ⟨rfl,hj,hjg,hpl,hpc,⟨s,hpf,hsgone⟩,hLn,fun y => ⟨fun hy => hLa y ((hmg y).1 hy),fun hy => (hLg y hy).1⟩,hLl,houtcut,fun k' hk' => ?_,he⟩
  have hto : ∀ y k,k ∈ insW w.ls (y : Nat) -> 0 <= toW w.ls k := fun y k hk => by have := (ins_lt hk).2; omega
  rcases (hmc k').1 hk' with rfl | rfl | rfl | rfl
  ·refine ⟨ho1l,by omega,?_⟩
   rcases hd with ⟨_,e2⟩ | ⟨b,o,f1,_⟩ <;> omega
  ·refine ⟨(ins_lt hdl).1,?_,hto s _ hdl⟩
   rcases hd with ⟨e,_⟩ | ⟨b,o,f1,f2,f3,f4,f5,f6,e⟩
   ·rw [e]; simp only; omega
   ·rw [e]; simp only
    have := (outsW_lt ((f4.outs o).2 rfl)).2; omega
  ·refine ⟨hql,by omega,?_⟩
   rcases hgq with ⟨_,e2⟩ | ⟨b,o,f1,_⟩ <;> omega
  ·refine ⟨(ins_lt hgl).1,?_,hto j _ hgl⟩
   rcases hgq with ⟨e,_⟩ | ⟨b,o,f1,f2,f3,f4,f5,f6,e⟩
   ·rw [e]; simp only; omega
   ·rw [e]; simp only
    have := (outsW_lt ((f4.outs o).2 rfl)).2; omega
 refine ⟨⟨inv_drop ?_ he ?_ ?_ ?_,Nat.lt_of_lt_of_le (Nat.lt_add_of_pos_right (by omega)) hcutl,drop_ne (i := j) (by show j < (w.ks.set j B).length; rw [lls]; exact hj) hjg⟩,⟨B,gone,cut,p,L,s,lv,d,g,hlv1,⟨o1,ho1l,hdd⟩,⟨q,hql,hgg⟩,hLa s (.inl rfl),gs5,hout2,gj5,hBe.symm,hLf,hs1⟩⟩
 ·show ∀ l ∈ setFrom w.ls p j,_
  rw [lls]
  refine setFrom_rng h.rng fun hk => ?_
  have h9 := h.rng _ (mog (lk_of hk))
  refine ⟨⟨?_,?_⟩,h9.2⟩
  ·show (-1 : Int) <= (j : Int); exact Int.le_trans (by decide) (Int.natCast_nonneg j)
  ·show (j : Int) < _; exact Int.ofNat_lt.2 hj
 ·intro x c hcx hg
  replace hcx : (w.ks.set j B)[x]? = some c := hcx
  show KidOk n c ((insW (setFrom w.ls p j) x).filter fun k => !cut.contains k).length ((outsW (setFrom w.ls p j) x).filter fun k => !cut.contains k).length
  have hcc : ∀ k,(!cut.contains k) = true ↔ k ∉ cut := fun k => by simp
  by_cases hxj : x = j
  ·subst hxj
   have ein : ((insW (setFrom w.ls p x) x).filter fun k => !cut.contains k).length = 1 := by
    have hl2 := two_list hin2
    have hnd := ins_nodup w.ls x
    generalize (insW w.ls x).getD 0 0 = i0 at hl2
    generalize (insW w.ls x).getD 1 0 = i1 at hl2
    have hm : ∀ k,k ∈ insW w.ls x ↔ k = i0 ∨ k = i1 := fun k => by rw [hl2]; simp
    have hne : i0 ≠ i1 := by rw [hl2] at hnd; simpa using hnd
    obtain ⟨c0,hc0,hc0m⟩ : ∃ c0,c0 ≠ g.last /\ ∀ k,k ∈ insW w.ls x ↔ k = g.last ∨ k = c0 := by
     rcases (hm _).1 hgl with h1 | h1
     ·exact ⟨i1,by rw [h1]; exact Ne.symm hne,fun k => by rw [hm,h1]⟩
     ·exact ⟨i0,by rw [h1]; exact hne,fun k => by rw [hm,h1]; exact Or.comm⟩
    refine one_len (c := c0) (nodup_filter _ (ins_nodup _ _)) fun k => ?_
    rw [List.mem_filter,setFrom_ins hpl,hcc]
    constructor
    ·rintro ⟨h1,h2⟩
     rcases (hc0m k).1 h1 with h3 | h3
     ·exact absurd ((hmc k).2 (.inr (.inr (.inr h3)))) h2
     ·exact h3
    ·intro e
     have hk : k ∈ insW w.ls x := (hc0m k).2 (.inr e)
     exact ⟨hk,fun hh => hc0 (e ▸ (hincut x k hg hk hh).2)⟩
   have eout : ((outsW (setFrom w.ls p x) x).filter fun k => !cut.contains k).length = 1 :=
    one_len (c := p) (nodup_filter _ (outs_nodup _ _)) fun k => by
     rw [List.mem_filter,setFrom_outs hpl,hcc]
     constructor
     ·rintro ⟨⟨rfl,_⟩ | ⟨h1,h2⟩,h3⟩
      ·rfl
      ·exact absurd ((hmc k).2 (.inl ((hojm k).1 h2))) h3
     ·rintro rfl
      exact ⟨.inl ⟨rfl,rfl⟩,hpc⟩
   rw [ein,eout]
   rw [gss hj] at hcx
   obtain rfl := sij hcx
   exact ⟨hBok,by rw [hBk]; decide,fun e => by rw [hBk] at e; exact absurd e (by decide),fun _ => ⟨rfl,rfl⟩,fun e => by rw [hBk] at e; exact absurd e (by decide)⟩
  ·rw [List.getElem?_set_ne (Ne.symm hxj)] at hcx
   have ein : ((insW (setFrom w.ls p j) x).filter fun k => !cut.contains k).length = (insW w.ls x).length :=
    same_len (nodup_filter _ (ins_nodup _ _)) (ins_nodup _ _) fun k => by
     rw [List.mem_filter,setFrom_ins hpl,hcc]
     exact ⟨fun hh => hh.1,fun hh => ⟨hh,fun hc => hxj (hincut x k hg hh hc).1⟩⟩
   have eout : ((outsW (setFrom w.ls p j) x).filter fun k => !cut.contains k).length = (outsW w.ls x).length :=
    same_len (nodup_filter _ (outs_nodup _ _)) (outs_nodup _ _) fun k => by
     rw [List.mem_filter,setFrom_outs hpl,hcc]
     constructor
     ·rintro ⟨⟨rfl,h1⟩ | ⟨h1,h2⟩,h3⟩
      ·exact absurd (Int.ofNat_inj.1 h1).symm hxj
      ·exact h2
     ·intro hh
      refine ⟨.inr ⟨fun e => ?_,hh⟩,houtcut x k hg hxj hh⟩
      subst e
      have h5 := (outsW_lt hh).2
      have : s = x := Int.ofNat_inj.1 (hpf.symm.trans h5)
      subst this
      rw [hsgone] at hg; cases hg
   rw [ein,eout]
   exact h.kid x c hcx
 ·have h1 := drop_size (ks := w.ks.set j B) (gone := inL gone) (L := L) hLn (fun y hy => (hLg y hy).1)
  have e : L.map (sizeAt (w.ks.set j B)) = L.map (sizeAt w.ks) := List.map_congr_left fun y hy => sizeAt_set (hLg y hy).2
  rw [e] at h1
  have h2 := set_size (c := B) hbj
  have h3 := h.size
  have h4 := szB_pos bj
  have h5 := szB_pos bs
  show sizeW (dropK (inL gone) 0 (w.ks.set j B)) + (dropL (inL gone) cut.contains 0 (setFrom w.ls p j)).length <= 64
  clear hd hgq
  omega
 ·exact ⟨by show (w.ks.set j B).length <= 24; rw [lls]; exact h.lens.1,by show (setFrom w.ls p j).length <= 40; rw [hsl]; exact h.lens.2⟩
theorem three_inv {n : Nt} {w x : Wb} (hG : Gates n) (h : InvW n w) {j : Nat} (hj : j < w.ks.length) (hx : threeAt n w j = some x) : InvW n x /\ x.ls.length < w.ls.length /\ x.ks ≠ [] := (three_all hG h hj hx).1
end Go.Proofs.YtifckjhggamefaaGreatDoor
