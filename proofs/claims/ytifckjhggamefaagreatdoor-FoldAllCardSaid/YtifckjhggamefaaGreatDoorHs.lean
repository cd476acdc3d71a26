/- What the folder's small methods answer: places, ins, outs, gate, is, follow, part, parts, Clone, row. No condition. -/
import Derived.Test.YtifckjhggamefaaGreatDoorHe
import Derived.Test.YtifckjhggamefaaGreatDoorHr
import Derived.Test.YtifckjhggamefaaGreatDoorHd
import Derived.Test.YtifckjhggamefaaGreatDoorHc
set_option linter.unusedSimpArgs false
set_option linter.unusedVariables false
set_option linter.unusedSectionVars false
namespace Go.Proofs.YtifckjhggamefaaGreatDoor
open Go Go.Vx
set_option maxRecDepth 10000
set_option maxHeartbeats 1000000
def cB : Blk -> List D
 | .mk k n a ks ls => [dI k,dI n,dI a,mkD 5 (cBs ks),mkD 3 (ls.map lnkD)]
where
 cBs : List Blk -> List (List D)
 | [] => []
 | b :: bs => cB b :: cBs bs
def pB : Blk -> PV
 | .mk k n a ks ls => Wq k n a (mkD 5 (cB.cBs ks)) (mkD 3 (ls.map lnkD))
theorem cBs_map : ∀ bs : List Blk,cB.cBs bs = bs.map cB
 | [] => rfl
 | b :: bs => by rw [cB.cBs,cBs_map bs]; rfl
theorem cBs_len (bs : List Blk) : (cB.cBs bs).length = bs.length := by rw [cBs_map,List.length_map]
theorem cBs_get {bs : List Blk} {i : Nat} {b : Blk} (h : bs[i]? = some b) : (cB.cBs bs)[i]? = some (cB b) := by rw [cBs_map,List.getElem?_map,h]; rfl
theorem cBs_app (xs ys : List Blk) : cB.cBs (xs ++ ys) = cB.cBs xs ++ cB.cBs ys := by simp [cBs_map]
theorem cBs_set (bs : List Blk) (i : Nat) (b : Blk) : (cB.cBs bs).set i (cB b) = cB.cBs (bs.set i b) := by simp [cBs_map,List.map_set]
theorem mkD_isS (k : Nat) (xs : List (List D)) : IsS k xs (mkD k xs) := by
 cases xs with
 | nil => exact ⟨0,rfl,by simp,rfl⟩
 | cons x xs => exact ⟨k,rfl,by simp,rfl⟩
theorem mkS_ne {k : Nat} {xs : List (List D)} (h : xs ≠ []) : mkS k xs = .own true k xs := by cases xs with | nil => exact absurd rfl h | cons => rfl
theorem mkS_app (k : Nat) (xs : List (List D)) (r : List D) : mkS k (xs ++ [r]) = .own true k (xs ++ [r]) := mkS_ne (by simp)
theorem nR_app1 (xs : List Nat) (i : Nat) : nR (xs ++ [i]) = nR xs ++ [[dI i]] := by rw [nR_app]; rfl
def fbox (N F : D) (w : Wb) : Box := [.dat N,.dat F,mkS 5 (cB.cBs w.ks),mkS 3 (w.ls.map lnkD)]
theorem lnk_get {ls : List Lk} {i : Nat} {x : Lk} (h : ls[i]? = some x) : (ls.map lnkD)[i]? = some [dI x.1,dI x.2.1,dI x.2.2] := by rw [List.getElem?_map,h]; rfl
theorem lnk_getk {ls : List Lk} {i : Nat} (h : i < ls.length) : (ls.map lnkD)[i]? = some [dI (lkW ls i).1,dI (lkW ls i).2.1,dI (lkW ls i).2.2] := lnk_get (lk_of h)
section
variable {bx : List Box} {N F : D} {l : Nat} {Y : PV}
theorem fplaces_ev {ls : List Lk} {c g : Nat} (p : Lk -> Bool) (hl : l < bx.length) (hb : bx[l]? = some [.dat N,.dat F,Y,.own true 3 (ls.map lnkD)]) (hcl : c < bx.length) (hlen : ls.length <= 1000)
  (hcall : ∀ x ∈ ls,∀ r : Box,ev cfg (.call g [Aq x.1 x.2.1 x.2.2,.ptr c 0] (bx ++ [r])) = Rq (B (p x))) :
  ev cfg (.call 128 [.ptr l 0,.clo g [c]] bx) = Rq (mkS 1 (nR (idxs p 0 ls))) := by
 have hll : (ls.map lnkD).length = ls.length := List.length_map ..
 have loop : ∀ (xs : List Lk) (i : Nat) (acc : List Nat),ls.drop i = xs -> acc.length <= i -> ev cfg (.loop 128 3 (q0 bx (sh128_3 (.clo g [c]) (mkS 1 (nR acc)) (.alias (.cell l 3)) (I (ls.map lnkD).length) (I i)))) = some (.loop (.exit 0) (q0 bx (se128_3 (mkS 1 (nR (acc ++ idxs p i xs)))))) := by
  intro xs
  induction xs with
  | nil =>
   intro i acc hd _
   rw [idxs,List.append_nil]
   exact es (fplaces_end hl hb hcl (by rw [hll]; exact drop_nil hd))
  | cons x xs ih =>
   intro i acc hd ha
   obtain ⟨hget,hd',hlt⟩ := drop_cons hd
   have hc := hcall x (mog hget)
   rw [idxs]
   cases acc with
   | nil =>
    have hr := fplaces_round0 hl hb hcl (lnk_get hget) (by rw [hll]; exact hlt) (by rw [hll]; omega) hc
    refine es (hr.trans ?_)
    cases hp : p x with
    | true =>
     rw [if_pos rfl,if_pos rfl]
     exact ih (i + 1) [i] hd' (by simp)
    | false =>
     rw [if_neg fnt,if_neg fnt]
     exact ih (i + 1) [] hd' (by simp)
   | cons a acc =>
    have hr := fplaces_round1 (rs := nR (a :: acc)) hl hb hcl (lnk_get hget) (by rw [hll]; exact hlt) (by rw [hll]; omega) (by rw [nR_len]; simp at ha ⊢; omega) hc
    refine es (hr.trans ?_)
    cases hp : p x with
    | true =>
     rw [if_pos rfl,if_pos rfl]
     have := ih (i + 1) (a :: acc ++ [i]) hd' (by simp at ha ⊢; omega)
     rw [nR_app1,mkS_ne (by simp)] at this
     rw [this,List.append_assoc]; rfl
    | false =>
     rw [if_neg fnt,if_neg fnt]
     exact ih (i + 1) (a :: acc) hd' (by omega)
 exact es (fplaces_f hl hb hcl (loop ls 0 [] rfl (Nat.le_refl _)))
theorem get_app1 {r : Box} (hl : l < bx.length) : (bx ++ [r])[l]? = bx[l]? := gal hl
theorem outsW_ev {ls : List Lk} (hl : l < bx.length) (hb : bx[l]? = some [.dat N,.dat F,Y,.own true 3 (ls.map lnkD)]) (hlen : ls.length <= 1000) (q : Int) :
  ev cfg (.call 84 [.ptr l 0,I q] bx) = Rq (mkS 1 (nR (outsW ls q))) := by
 refine es (fouts_f hl (fplaces_ev (fun x => x.1 == q) (by simp; omega) (by rw [get_app1 hl]; exact hb) (by simp) hlen fun x _ r => es (fouts1_f (by simp) ?_)))
 simp
theorem insW_ev {ls : List Lk} (hl : l < bx.length) (hb : bx[l]? = some [.dat N,.dat F,Y,.own true 3 (ls.map lnkD)]) (hlen : ls.length <= 1000) (q : Int) :
  ev cfg (.call 83 [.ptr l 0,I q] bx) = Rq (mkS 1 (nR (insW ls q))) := by
 refine es (fins_f hl (fplaces_ev (fun x => x.2.1 == q) (by simp; omega) (by rw [get_app1 hl]; exact hb) (by simp) hlen fun x _ r => es (fins1_f (by simp) ?_)))
 simp
theorem gateW_ev {ks : List Blk} (hl : l < bx.length) (hb : bx[l]? = some [.dat N,.dat F,.own true 5 (cB.cBs ks),Y]) {q : Int} (hq : q < ks.length) :
  ev cfg (.call 29 [.ptr l 0,I q] bx) = Rq (B (gateW ks q)) := by
 by_cases h0 : q < 0
 ·have e : gateW ks q = false := by rw [gateW,kidW,if_pos h0]
  rw [e]
  exact es (fgate_neg hl (dqf (by omega)))
 ·obtain ⟨i,rfl⟩ : ∃ i : Nat,q = i := ⟨q.toNat,by omega⟩
  have hi : i < ks.length := by omega
  have hg := gge hi
  rw [gate_iff hg]
  have hr := cBs_get hg
  generalize ks[i] = b at hr
  obtain ⟨k,n,a,ks',ls'⟩ := b
  exact es (fgate_f hl hb hr)
theorem isW_ev {n : Nt} {w : Wb} (hN : IsN n N F) (hw : InvW n w) (hl : l < bx.length) (hb : bx[l]? = some [.dat N,.dat F,.own true 5 (cB.cBs w.ks),.own true 3 (w.ls.map lnkD)]) {q : Int} (hq : q < w.ks.length) {kd : Int} (hk : kd ≠ 0) (sp : Bool) :
  ev cfg (.call 94 [.ptr l 0,I q,I kd,B sp] bx) = Rq (B ((gkW n w q == kd) && (decide (((outsW w.ls q).length : Int) > 1) == sp))) := by
 have hg := gateW_ev hl hb hq
 cases hgw : gateW w.ks q with
 | false =>
  rw [hgw] at hg
  have e : gkW n w q = 0 := by rw [gkW,hgw]; rfl
  rw [e,show ((0 : Int) == kd) = false from beq_eq_false_iff_ne.2 (Ne.symm hk),Bool.false_and]
  exact es (fis_ng hl hg)
 | true =>
  rw [hgw] at hg
  have h0 : ¬ q < 0 := by
   intro h0
   rw [gateW,kidW,if_pos h0] at hgw; cases hgw
  obtain ⟨i,rfl⟩ : ∃ i : Nat,q = i := ⟨q.toNat,by omega⟩
  have hi : i < w.ks.length := by omega
  have hgi := gge hi
  have h8 : w.ks[i].kd = 8 := by rw [gate_iff hgi] at hgw; simpa using hgw
  obtain ⟨g1,_⟩ := (hw.kid i _ hgi).gate h8
  have hnode : nodeW w.ks i = w.ks[i].nd := by rw [nodeW,kid_nat,hgi]
  obtain ⟨nr,fr,hNr,hnr,_⟩ := hN
  obtain ⟨p,hp⟩ : ∃ p : Nat,w.ks[i].nd = p := ⟨w.ks[i].nd.toNat,by omega⟩
  have hpl : p < n.nodes.length := by omega
  obtain ⟨r,hr1,hr2⟩ := hnr.get hpl
  obtain ⟨_,_,op,m,K,rfl,_⟩ := hr2
  have hkn : kindN n p = n.nodes[p].k := by
   rw [kindN,if_neg (by omega)]
   simp [hpl]
  have e : gkW n w i = n.nodes[p].k := by rw [gkW,hgw,if_pos rfl,hnode,hp,hkn]
  rw [e]
  have hrow := cBs_get hgi
  revert hrow hp
  generalize w.ks[i] = b
  intro hp hrow
  obtain ⟨k,n',a,ks',ls'⟩ := b
  simp only [Blk.nd] at hp
  subst hp
  have := fis_f (kd := kd) (sp := sp) hl hb hrow hNr hr1 hg (outsW_ev hl hb (by have := hw.lens; omega) i)
  rw [nR_len] at this
  exact es this
theorem followW_ev {n : Nt} {w : Wb} (hw : InvW n w) (hl : l < bx.length) (hb : bx[l]? = some [.dat N,.dat F,.own true 5 (cB.cBs w.ks),.own true 3 (w.ls.map lnkD)]) {i : Nat} (hi : i < w.ls.length) :
  ev cfg (.call 98 [.ptr l 0,I i] bx) = Rq (.agg [I (followW w i).to,I (followW w i).by_,I (followW w i).last]) := by
 have hlen : w.ls.length <= 1000 := by have := hw.lens; omega
 have hrng := (hw.rng _ (mog (lk_of hi))).2.1
 have hget := lnk_getk hi
 have ht : (lkW w.ls i).2.1 = toW w.ls i := rfl
 rw [ht] at hget hrng
 have hgt : ∀ r : Box,ev cfg (.call 29 [.ptr l 0,I (toW w.ls i)] (bx ++ [r])) = Rq (B (gateW w.ks (toW w.ls i))) := fun r => gateW_ev (by simp; omega) (by rw [get_app1 hl]; exact hb) hrng.2
 rcases follow_cases hw hi with ⟨e,hc⟩ | ⟨b,o,e1,e2,e3,e4,e5,e6⟩
 ·rw [e]
  by_cases h0 : toW w.ls i < 0
  ·exact es (ffollow_neg hl hb hget (dqt h0))
  ·have hg := hc.resolve_left h0
   rw [hg] at hgt
   exact es (ffollow_gate hl hb hget (dqf h0) hgt)
 ·rw [e6]
  have hg : gateW w.ks (toW w.ls i) = false := by rw [e1]; exact e3
  rw [hg] at hgt
  have ho : ∀ r : Box,ev cfg (.call 84 [.ptr l 0,I (toW w.ls i)] (bx ++ [r])) = Rq (.own true 1 ([dI o] :: [])) := fun r => by
   rw [outsW_ev (by simp; omega) (by rw [get_app1 hl]; exact hb) hlen,e1]
   have hk := (single hw (gge e2) e3)
   have h1 : outsW w.ls b = [o] := by
    have h2 := (hw.kid b _ (gge e2)).one (by have := e3; rw [gate_iff (gge e2)] at this; simpa using this)
    rw [hd_one h2.2,(e4.outs _).1 (hd_mem (by rw [h2.2]; exact Nat.one_pos))]
   rw [h1]; rfl
  have := ffollow_f hl hb hget (dqf (by omega)) hgt ho (lnk_getk e5)
  rw [show (lkW w.ls o).2.1 = toW w.ls o from rfl,e1] at this
  have hcall := es this
  exact hcall
theorem partW_ev {ks : List Blk} {ls : List Lk} (hl : l < bx.length) (hb : bx[l]? = some [.dat N,.dat F,.own true 5 (cB.cBs ks),Y]) {x : Wz} (hx : x.by_ < ks.length) :
  ev cfg (.call 97 [.ptr l 0,Aq x.to x.by_ x.last] bx) = Rq (pB (partW ⟨ks,ls⟩ x)) := by
 rw [partW]
 by_cases h0 : x.by_ < 0
 ·have e : kidW ks x.by_ = none := if_pos h0
  rw [e]
  exact es (fpart_neg hl (dqt h0))
 ·obtain ⟨i,hi⟩ : ∃ i : Nat,x.by_ = i := ⟨x.by_.toNat,by omega⟩
  rw [hi] at hx ⊢
  have hil : i < ks.length := by omega
  have hg := gge hil
  rw [kid_nat,hg]
  have hr := cBs_get hg
  generalize ks[i] = b at hr
  obtain ⟨k,n,a,ks',ls'⟩ := b
  exact es (fpart_f hl hb hr (mkD_one 5 _) (mkD_one 3 _))
theorem partsW_ev (b : Blk) (bx : List Box) : ev cfg (.call 92 [pB b] bx) = Rq (.dat (mkD 5 (cB.cBs (partsB b)))) := by
 obtain ⟨k,n,a,ks,ls⟩ := b
 have h := es (fparts_f (bx := bx) (k := k) (n := n) (a := a) (mkD_one 5 (cB.cBs ks)) (mkD_one 3 (ls.map lnkD)))
 rw [pB,h,partsB]
 simp only [beq_iff_eq]
 by_cases h3 : k = 3
 ·rw [if_pos h3,if_pos h3]
 ·rw [if_neg h3,if_neg h3]
  by_cases h1 : k = 1
  ·rw [if_pos h1,if_pos h1]; rfl
  ·rw [if_neg h1,if_neg h1]; rfl
theorem clone5_ev {rows : List (List D)} (h : rows.length <= 1000) (bx : List Box) : ev cfg (.call 60 [.dat (mkD 5 rows)] bx) = Rq (mkS 5 rows) := by
 cases rows with
 | nil => exact es clone5_nil
 | cons r rs => exact es (clone5_rows (by simp at h; omega))
theorem clone3_ev {rows : List (List D)} (h : rows.length <= 1000) (bx : List Box) : ev cfg (.call 61 [.dat (mkD 3 rows)] bx) = Rq (mkS 3 rows) := by
 cases rows with
 | nil => exact es clone3_nil
 | cons r rs => exact es (clone3_rows (by simp at h; omega))
theorem rowW_ev {bs : List Blk} {R : D} (hR : R = mkD 5 (cB.cBs bs) ∨ (bs = [] /\ IsS 5 [] R)) (h : bs.length <= 1000) (bx : List Box) : ev cfg (.call 91 [.dat R] bx) = Rq (pB (rowB bs)) := by
 match bs,hR,h with
 | [],hR,_ =>
  have : IsS 5 [] R := by
   rcases hR with rfl | ⟨_,h⟩
   ·exact mkD_isS 5 []
   ·exact h
  exact es (frow_0 this)
 | [.mk k n a ks ls],hR,_ =>
  have hR : R = _ := hR.resolve_right (fun h => by cases h.1)
  subst hR
  exact es (frow_1 (mkD_isS 5 (cB.cBs [.mk k n a ks ls])) (mkD_one 5 _) (mkD_one 3 _))
 | b1 :: b2 :: bs,hR,h =>
  have hR : R = _ := hR.resolve_right (fun h => by cases h.1)
  subst hR
  have hl : (cB b1 :: cB b2 :: cB.cBs bs).length <= 1000 := by rw [List.length_cons,List.length_cons,cBs_len]; exact h
  exact es (frow_n (mkD_isS 5 (cB b1 :: cB b2 :: cB.cBs bs)) (fun r => clone5_ev (rows := cB b1 :: cB b2 :: cB.cBs bs) hl _) (by omega))
end
theorem inL_any (X : List Int) (i : Nat) : (X.any fun y => (i : Int) == y) = inL X i := by rw [inL,List.contains_eq_any_beq]
def prs (gone : Nat -> Bool) (i m : Nat) : List (List D) := (List.range i).map (fun j => [dI ((rank gone j : Nat) : Int)]) ++ List.replicate m [dI 0]
theorem prs_get {gone : Nat -> Bool} {i m : Nat} : (prs gone i (m + 1))[i]? = some [dI 0] := by
 rw [prs,gar (by simp)]
 simp
theorem prs_set {gone : Nat -> Bool} {i m : Nat} : (prs gone i (m + 1)).set i [dI ((rank gone i : Nat) : Int)] = prs gone (i + 1) m := by
 rw [prs,prs,List.range_succ,List.map_append,List.replicate_succ,List.set_append_right _ _ (by simp)]
 simp
theorem prs_end {gone : Nat -> Bool} {i j : Nat} (h : j < i) : (prs gone i 0)[j]? = some [dI ((rank gone j : Nat) : Int)] := by
 rw [prs,List.replicate_zero,List.append_nil,List.getElem?_map,List.getElem?_range h]; rfl
section
variable {bx : List Box} {N F X Z : D} {l : Nat}
theorem fdrop_keep {rows lr pr ks acc : List (List D)} {gone : Nat -> Bool} {i : Nat} {f t w : Int} (hl : l < bx.length) (hb : bx[l]? = some [.dat N,.dat F,.own true 5 rows,.own true 3 lr]) (hZ : Oq Z) (hlt : i < lr.length) (hmax : lr.length < 1000) (hacc : acc.length <= i)
  (hget : lr[i]? = some [dI f,dI t,dI w]) (hf : f < 0 ∨ 0 <= f /\ pr[f.toNat]? = some [dI (renum gone f)]) (ht : t < 0 ∨ 0 <= t /\ pr[t.toNat]? = some [dI (renum gone t)])
  (hc : Cq 49 [.dat Z,I i] (B false)) :
  Jq (.loop 93 11 (q0 bx (sh93_11 (.ptr l 0) (.dat Z) (.own true 1 pr) (mkS 5 ks) (mkS 3 acc) (.alias (.cell l 3)) (I lr.length) (I i)))) =
   ev cfg (.loop 93 11 (q0 bx (sh93_11 (.ptr l 0) (.dat Z) (.own true 1 pr) (mkS 5 ks) (mkS 3 (acc ++ [[dI (renum gone f),dI (renum gone t),dI w]])) (.alias (.cell l 3)) (I lr.length) (I ((i + 1 : Nat) : Int))))) := by
 have hks : (acc.length + 1) * 24 <= 140737488355328 := by omega
 rcases hf with hf | ⟨hf0,hf⟩ <;> rcases ht with ht | ⟨ht0,ht⟩
 ·rw [renum_neg hf,renum_neg ht]
  cases acc with
  | nil => exact fdrop_keep0nn hl hb hZ hlt (by omega) hget (dqf (by omega)) (dqf (by omega)) hc
  | cons a acc => exact fdrop_keep1nn hl hb hZ hlt (by omega) hks hget (dqf (by omega)) (dqf (by omega)) hc
 ·rw [renum_neg hf]
  have e : t = ((t.toNat : Nat) : Int) := (Int.toNat_of_nonneg ht0).symm
  rw [e] at hget
  cases acc with
  | nil => exact fdrop_keep0np hl hb hZ hlt (by omega) hget (dqf (by omega)) ht hc
  | cons a acc => exact fdrop_keep1np hl hb hZ hlt (by omega) hks hget (dqf (by omega)) ht hc
 ·rw [renum_neg ht]
  have e : f = ((f.toNat : Nat) : Int) := (Int.toNat_of_nonneg hf0).symm
  rw [e] at hget
  cases acc with
  | nil => exact fdrop_keep0pn hl hb hZ hlt (by omega) hget hf (dqf (by omega)) hc
  | cons a acc => exact fdrop_keep1pn hl hb hZ hlt (by omega) hks hget hf (dqf (by omega)) hc
 ·have e : t = ((t.toNat : Nat) : Int) := (Int.toNat_of_nonneg ht0).symm
  have e' : f = ((f.toNat : Nat) : Int) := (Int.toNat_of_nonneg hf0).symm
  rw [e,e'] at hget
  cases acc with
  | nil => exact fdrop_keep0pp hl hb hZ hlt (by omega) hget hf ht hc
  | cons a acc => exact fdrop_keep1pp hl hb hZ hlt (by omega) hks hget hf ht hc
theorem dropW_ev {w : Wb} {gone : List Int} {cut : List Nat} (hlen : w.ks.length <= 100 /\ w.ls.length <= 100) (hr : ∀ l ∈ w.ls,(-1 <= l.1 /\ l.1 < w.ks.length) /\ -1 <= l.2.1 /\ l.2.1 < w.ks.length)
  (hl : l < bx.length) (hb : bx[l]? = some [.dat N,.dat F,.own true 5 (cB.cBs w.ks),.own true 3 (w.ls.map lnkD)]) (hX : IsS 1 (iR gone) X) (hZ : IsS 1 (nR cut) Z) (hgl : gone.length < 1000 /\ cut.length < 1000) :
  ev cfg (.call 93 [.ptr l 0,.dat X,.dat Z] bx) = some (.ret (.tup []) (some ⟨bx.set l (fbox N F (dropW w gone cut)),l,false⟩)) := by
 have oX : Oq X := by obtain ⟨_,_,_,h⟩ := hX; exact h
 have oZ : Oq Z := by obtain ⟨_,_,_,h⟩ := hZ; exact h
 have hkl : (cB.cBs w.ks).length = w.ks.length := cBs_len _
 have hll : (w.ls.map lnkD).length = w.ls.length := List.length_map ..
 have cX : ∀ (i : Nat) (bx : List Box),ev cfg (.call 49 [.dat X,I i] bx) = Rq (B (inL gone i)) := fun i bx => by
  rw [fHas_ev gone X hX (by omega) i bx,inL_any]
 have cZ : ∀ (i : Nat) (bx : List Box),ev cfg (.call 49 [.dat Z,I i] bx) = Rq (B (cut.contains i)) := fun i bx => by
  rw [fHas_ev _ Z hZ (by simp; omega) i bx,inL_any,inL]
  refine congrArg (fun b : Bool => some (Out.ret (B b) none)) (Bool.eq_iff_iff.2 ?_)
  simp only [List.contains_iff_mem,List.mem_map]
  exact ⟨fun ⟨a,h,e⟩ => by rw [<- Int.ofNat_inj.1 e]; exact h,fun h => ⟨i,h,rfl⟩⟩
 have loop1 : ∀ (bs : List Blk) (i m : Nat) (acc : List Blk),w.ks.drop i = bs -> m = bs.length -> acc.length = rank (inL gone) i -> acc.length <= i →
   ev cfg (.loop 93 3 (q0 bx (sh93_3 (.ptr l 0) (.dat X) (.dat Z) (.own true 1 (prs (inL gone) i m)) (mkS 5 (cB.cBs acc)) (.alias (.cell l 2)) (I (cB.cBs w.ks).length) (I i)))) =
    some (.loop (.exit 0) (q0 bx (se93_3 (.ptr l 0) (.dat Z) (.own true 1 (prs (inL gone) (i + m) 0)) (mkS 5 (cB.cBs (acc ++ dropK (inL gone) i bs)))))) := by
  intro bs
  induction bs with
  | nil =>
   intro i m acc hd hm ha _
   have hm0 : m = 0 := hm
   subst hm0
   rw [dropK,List.append_nil]
   exact es (fdrop_kend hl hb oX oZ (by rw [hkl]; exact drop_nil hd))
  | cons b bs ih =>
   intro i m acc hd hm ha hai
   obtain ⟨hget,hd',hlt⟩ := drop_cons hd
   have hm1 : m = bs.length + 1 := hm
   subst hm1
   have hrow := cBs_get hget
   have hrr : [dI ((acc.length : Nat) : Int)] = [dI ((rank (inL gone) i : Nat) : Int)] := by rw [ha]
   have ed : dropK (inL gone) i (b :: bs) = if inL gone i = true then dropK (inL gone) (i + 1) bs else b :: dropK (inL gone) (i + 1) bs := rfl
   rw [show i + (bs.length + 1) = i + 1 + bs.length by omega]
   have hcb : cB b = cB b := rfl
   obtain ⟨k,n,a,ks',ls'⟩ := b
   cases acc with
   | nil =>
    have hr := fdrop_k0 (pr := prs (inL gone) i (bs.length + 1)) hl hb oX oZ hrow (mkD_one 5 _) (mkD_one 3 _) prs_get (by rw [hkl]; omega) (cX i)
    have h0 : rank (inL gone) i = 0 := ha.symm
    rw [show [dI ((0 : Nat) : Int)] = [dI ((rank (inL gone) i : Nat) : Int)] by rw [h0],prs_set] at hr
    refine es (hr.trans ?_)
    rw [ed]
    cases hg : inL gone i with
    | true =>
     rw [if_pos rfl,if_pos rfl]
     exact ih (i + 1) bs.length [] hd' rfl (by rw [rank_gone hg]; exact h0.symm) (by simp)
    | false =>
     rw [if_neg fnt,if_neg fnt]
     exact ih (i + 1) bs.length [.mk k n a ks' ls'] hd' rfl (by rw [rank_succ hg,h0]; rfl) (by simp)
   | cons c acc =>
    have hr := fdrop_k1 (pr := prs (inL gone) i (bs.length + 1)) (ls := cB.cBs (c :: acc)) hl hb oX oZ hrow (mkD_one 5 _) (mkD_one 3 _) prs_get (by rw [hkl]; omega) (by rw [cBs_len]; omega) (cX i)
    rw [cBs_len (c :: acc),hrr,prs_set] at hr
    refine es (hr.trans ?_)
    rw [ed]
    cases hg : inL gone i with
    | true =>
     rw [if_pos rfl,if_pos rfl]
     exact ih (i + 1) bs.length (c :: acc) hd' rfl (by rw [rank_gone hg]; exact ha) (by omega)
    | false =>
     rw [if_neg fnt,if_neg fnt]
     have := ih (i + 1) bs.length (c :: acc ++ [.mk k n a ks' ls']) hd' rfl (by rw [rank_succ hg,<- ha]; simp) (by simp at hai ⊢; omega)
     rw [List.append_assoc] at this
     rw [cBs_app] at this
     exact this
 have loop2 : ∀ (xs : List Lk) (i : Nat) (acc : List Lk),w.ls.drop i = xs -> acc.length <= i →
   ev cfg (.loop 93 11 (q0 bx (sh93_11 (.ptr l 0) (.dat Z) (.own true 1 (prs (inL gone) w.ks.length 0)) (mkS 5 (cB.cBs (dropK (inL gone) 0 w.ks))) (mkS 3 (acc.map lnkD)) (.alias (.cell l 3)) (I (w.ls.map lnkD).length) (I i)))) =
    some (.loop (.exit 2) (q0 bx (se93_11 (.ptr l 0) (mkS 5 (cB.cBs (dropK (inL gone) 0 w.ks))) (mkS 3 ((acc ++ dropL (inL gone) cut.contains i xs).map lnkD))))) := by
  intro xs
  induction xs with
  | nil =>
   intro i acc hd _
   rw [dropL,List.append_nil]
   exact es (fdrop_lend hl hb oZ (by rw [hll]; exact drop_nil hd))
  | cons x xs ih =>
   intro i acc hd ha
   obtain ⟨hget,hd',hlt⟩ := drop_cons hd
   have hlk := lnk_get hget
   have hcz := cZ i
   have hxr := hr x (mog hget)
   have hend : ∀ y : Int,-1 <= y /\ y < w.ks.length -> y < 0 ∨ 0 <= y /\ (prs (inL gone) w.ks.length 0)[y.toNat]? = some [dI (renum (inL gone) y)] := fun y hy => by
    by_cases h0 : y < 0
    ·exact .inl h0
    ·refine .inr ⟨by omega,?_⟩
     rw [prs_end (by omega),renum,if_neg h0]
   rw [dropL]
   cases hc : cut.contains i with
   | true =>
    rw [hc] at hcz
    rw [if_pos rfl]
    have h2 := ih (i + 1) acc hd' (by omega)
    cases acc with
    | nil => exact es ((fdrop_gone0 hl hb oZ (by rw [hll]; exact hlt) (by rw [hll]; omega) hlk hcz).trans h2)
    | cons c acc => exact es ((fdrop_gone1 (ls := (c :: acc).map lnkD) hl hb oZ (by rw [hll]; exact hlt) (by rw [hll]; omega) (by rw [List.length_map]; omega) hlk hcz).trans h2)
   | false =>
    rw [hc] at hcz
    rw [if_neg fnt]
    have h2 := ih (i + 1) (acc ++ [(renum (inL gone) x.1,renum (inL gone) x.2.1,x.2.2)]) hd' (by simp; omega)
    rw [List.append_assoc,List.map_append] at h2
    exact es ((fdrop_keep (acc := acc.map lnkD) hl hb oZ (by rw [hll]; exact hlt) (by rw [hll]; omega) (by rw [List.length_map]; exact ha) hlk (hend _ hxr.1) (hend _ hxr.2) hcz).trans h2)
 have h1 := loop1 w.ks 0 w.ks.length [] rfl rfl rfl (Nat.le_refl _)
 have h2 := loop2 w.ls 0 [] rfl (Nat.le_refl _)
 rw [Nat.zero_add,List.nil_append] at h1
 rw [List.nil_append] at h2
 refine es (fdrop_f (pr := prs (inL gone) w.ks.length 0) hl hb oX oZ (by rw [hkl]; omega) ?_ h2)
 rw [hkl] at h1 ⊢
 have e : prs (inL gone) 0 w.ks.length = List.replicate w.ks.length [dI 0] := by rw [prs]; rfl
 rw [e] at h1
 exact h1
end
theorem parts_len {n : Nt} {w : Wb} (hw : InvW n w) {i : Nat} {b : Blk} (h : w.ks[i]? = some b) : (partsB b).length <= 64 /\ (partsB b).length <= szB b := by
 have h1 := parts_size b
 have h2 := szBs_len (xs := partsB b)
 have h3 := set_size (c := b) h
 have h4 := hw.size
 have h5 : szB b <= sizeW w.ks := by
  have : w.ks.set i b = w.ks := set_same h
  have h6 := dropK_sum (gone := fun x => !(x == i)) (bs := w.ks) (i := 0)
  have h7 := sum_split (fun x => x == i) (bs := w.ks) (i := 0)
  have h8 := sum_one (a := i) (bs := w.ks) (i := 0) (Nat.zero_le _)
  rw [Nat.sub_zero,h] at h8
  simp only at h8
  omega
 omega
theorem setFrom_map {ls : List Lk} {k : Nat} {a : Int} : (setFrom ls k a).map lnkD = (ls.map lnkD).set k [dI a,dI (lkW ls k).2.1,dI (lkW ls k).2.2] := by
 rw [setFrom,List.map_set]; rfl
theorem setFrom_len {ls : List Lk} {k : Nat} {a : Int} : (setFrom ls k a).length = ls.length := by simp [setFrom]
structure FB (bx : List Box) (l : Nat) (N F : D) (w : Wb) : Prop where
 lt : l < bx.length
 get : bx[l]? = some [.dat N,.dat F,.own true 5 (cB.cBs w.ks),.own true 3 (w.ls.map lnkD)]
 n : Oq N
 f : Oq F
theorem fbox_ne {N F : D} {w : Wb} (h : w.ks ≠ []) (h2 : w.ls ≠ []) : fbox N F w = [.dat N,.dat F,.own true 5 (cB.cBs w.ks),.own true 3 (w.ls.map lnkD)] := by
 rw [fbox,mkS_ne (by simpa [cBs_map] using h),mkS_ne (by simpa using h2)]
theorem FB.ex {bx : List Box} {l : Nat} {N F : D} {w : Wb} (h : FB bx l N F w) (r : List Box) : FB (bx ++ r) l N F w := ⟨by have := h.lt; simp; omega,by rw [gal h.lt]; exact h.get,h.n,h.f⟩
theorem FB.set {bx : List Box} {l : Nat} {N F : D} {w w' : Wb} (h : FB bx l N F w) : FB (bx.set l [.dat N,.dat F,.own true 5 (cB.cBs w'.ks),.own true 3 (w'.ls.map lnkD)]) l N F w' := ⟨by have := h.lt; simpa using this,by rw [gss h.lt],h.n,h.f⟩
theorem outs1 {n : Nt} {w : Wb} (hw : InvW n w) {a : Nat} (ha : a < w.ks.length) (hg : gateW w.ks a = false) : outsW w.ls a = [hd (outsW w.ls a)] /\ hd (outsW w.ls a) < w.ls.length := by
 have hk := gge ha
 have h2 := (hw.kid a _ hk).one (by rw [gate_iff hk] at hg; simpa using hg)
 exact ⟨hd_one h2.2,(outsW_lt (hd_mem (by rw [h2.2]; exact Nat.one_pos))).1⟩
theorem inRow_at {n : Nt} {w : Wb} {bx : List Box} {l : Nat} {N F : D} (hw : InvW n w) (hB : FB bx l N F w) {a : Nat} (ha : a < w.ks.length) :
  match oneAt w a with
  | none => Jq (.loop 62 2 (q0 bx (sh62_2 (.ptr l 0) (I (cB.cBs w.ks).length) (I a)))) = ev cfg (.loop 62 2 (q0 bx (sh62_2 (.ptr l 0) (I (cB.cBs w.ks).length) (I ((a + 1 : Nat) : Int)))))
  | some x => Jq (.loop 62 2 (q0 bx (sh62_2 (.ptr l 0) (I (cB.cBs w.ks).length) (I a)))) = some (.loop .ret ⟨(se62_2 (B true)),bx.set l (fbox N F x),bx.length,some l,false⟩) := by
 obtain ⟨hl,hb,hN,hF⟩ := hB
 have hlens := hw.lens
 have hkl : (cB.cBs w.ks).length = w.ks.length := cBs_len _
 have hlt : a < (cB.cBs w.ks).length := by rw [hkl]; exact ha
 have hmax : (cB.cBs w.ks).length < 9223372036854775808 := by rw [hkl]; omega
 have hg := gateW_ev hl hb (q := (a : Int)) (by omega)
 cases hgw : gateW w.ks a with
 | true =>
  rw [hgw] at hg
  have e : oneAt w a = none := by rw [oneAt,if_pos hgw]
  rw [e]
  exact finrow_g hl hb hlt hmax hg
 | false =>
  rw [hgw] at hg
  obtain ⟨ho1,hol⟩ := outs1 hw ha hgw
  have ho := outsW_ev hl hb (by omega) (a : Int)
  have eone : oneAt w a = if (decide (toW w.ls (hd (outsW w.ls a)) < 0) || (toW w.ls (hd (outsW w.ls a)) == (a : Int) || gateW w.ks (toW w.ls (hd (outsW w.ls a))))) = true then none
   else some (dropW ⟨w.ks.set a (rowB (partsB ((kidW w.ks a).getD emptyB) ++ partsB ((kidW w.ks (toW w.ls (hd (outsW w.ls a)))).getD emptyB))),setFrom w.ls (hd (outsW w.ls (toW w.ls (hd (outsW w.ls a))))) a⟩ [toW w.ls (hd (outsW w.ls a))] [hd (outsW w.ls a)]) := by
   rw [oneAt,if_neg (by rw [hgw]; exact fnt)]
  rw [eone]
  clear eone
  rw [ho1] at ho
  generalize hd (outsW w.ls a) = o at *
  have ho : ev cfg (.call 84 [.ptr l 0,I a] bx) = Rq (.own true 1 ([dI o] :: [])) := ho
  have hget := lnk_getk hol
  have hto : (lkW w.ls o).2.1 = toW w.ls o := rfl
  have hrng := (hw.rng _ (mog (lk_of hol))).2.1
  rw [hto] at hget hrng
  by_cases h0 : toW w.ls o < 0
  ·rw [if_pos (by simp [h0])]
   exact finrow_neg hl hb hlt hmax hg ho hget (dqt h0)
  have h0' : decide (toW w.ls o < 0) = false := dqf h0
  by_cases hs : toW w.ls o = a
  ·rw [if_pos (by simp [hs])]
   exact finrow_self hl hb hlt hmax hg ho hget h0' (by simpa using hs)
  have hs' : (toW w.ls o == (a : Int)) = false := beq_eq_false_iff_ne.2 hs
  have hg2 := gateW_ev hl hb hrng.2
  cases hgb : gateW w.ks (toW w.ls o) with
  | true =>
   rw [hgb] at hg2
   rw [if_pos (by simp)]
   exact finrow_gb hl hb hlt hmax hg ho hget h0' hs' hg2
  | false =>
   rw [hgb] at hg2
   rw [if_neg (by rw [h0',hs']; exact fnt)]
   obtain ⟨b,hbq⟩ : ∃ b : Nat,toW w.ls o = b := ⟨(toW w.ls o).toNat,by omega⟩
   rw [hbq] at hs' hg2 hgb hrng hget ⊢
   have hbl : b < w.ks.length := by omega
   obtain ⟨hob1,hobl⟩ := outs1 hw hbl hgb
   have hka := gge ha
   have hkb := gge hbl
   obtain ⟨pa1,pa2⟩ := parts_len hw hka
   obtain ⟨pb1,pb2⟩ := parts_len hw hkb
   have koA := hw.kid a _ hka
   have koB := hw.kid b _ hkb
   have hna := parts_ne koA.ne.1 koA.seq
   have hnb := parts_ne koB.ne.1 koB.seq
   rw [kid_nat,kid_nat,hka,hkb]
   simp only [Option.getD_some]
   have hra := cBs_get hka
   have hrb := cBs_get hkb
   have hpa := fun bx : List Box => partsW_ev w.ks[a] bx
   have hpb := fun bx : List Box => partsW_ev w.ks[b] bx
   generalize w.ks[a] = A at *
   generalize w.ks[b] = B at *
   cases hPA : partsB A with
   | nil => rw [hPA] at hna; simp at hna
   | cons x pa =>
   cases hPB : partsB B with
   | nil => rw [hPB] at hnb; simp at hnb
   | cons y pb =>
   rw [hPA] at hpa pa1
   rw [hPB] at hpb pb1
   have hrow := fun bx : List Box => rowW_ev (bs := x :: pa ++ y :: pb) (.inl rfl) (by simp at pa1 pb1 ⊢; omega) bx
   have hR : rowB (x :: pa ++ y :: pb) = .mk 3 0 0 (x :: pa ++ y :: pb) [] := row_many (by simp; omega)
   rw [hR] at hrow ⊢
   have ecs : cB.cBs (x :: pa ++ y :: pb) = cB x :: (cB.cBs pa ++ cB y :: cB.cBs pb) := by rw [cBs_app]; rfl
   have erow : cB (.mk 3 0 0 (x :: pa ++ y :: pb) []) = [dI 3,dI 0,dI 0,.sl 5 (cB x :: (cB.cBs pa ++ cB y :: cB.cBs pb)),.nil] := by
    rw [cB,ecs]; rfl
   have epv : pB (.mk 3 0 0 (x :: pa ++ y :: pb) []) = Wq 3 0 0 (.sl 5 (cB x :: (cB.cBs pa ++ cB y :: cB.cBs pb))) .nil := by
    rw [pB,ecs]; rfl
   rw [epv] at hrow
   rw [ecs] at hrow
   generalize hWR : Blk.mk 3 0 0 (x :: pa ++ y :: pb) [] = R at erow
   have hset : (cB.cBs w.ks).set a [dI 3,dI 0,dI 0,.sl 5 (cB x :: (cB.cBs pa ++ cB y :: cB.cBs pb)),.nil] = cB.cBs (w.ks.set a R) := by rw [<- erow,cBs_set]
   generalize hqo2 : hd (outsW w.ls b) = o2 at *
   have hget2 := lnk_getk hobl
   have hFB1 : FB (bx.set l [.dat N,.dat F,.own true 5 (cB.cBs (w.ks.set a R)),.own true 3 (w.ls.map lnkD)]) l N F ⟨w.ks.set a R,w.ls⟩ := FB.set (w := w) (w' := ⟨w.ks.set a R,w.ls⟩) ⟨hl,hb,hN,hF⟩
   have hFB2 : FB (bx.set l [.dat N,.dat F,.own true 5 (cB.cBs (w.ks.set a R)),.own true 3 ((setFrom w.ls o2 a).map lnkD)]) l N F ⟨w.ks.set a R,setFrom w.ls o2 a⟩ := FB.set (w := w) (w' := ⟨w.ks.set a R,setFrom w.ls o2 a⟩) ⟨hl,hb,hN,hF⟩
   have ho2 := outsW_ev hFB1.lt hFB1.get (show w.ls.length <= 1000 by omega) (b : Int)
   rw [hob1] at ho2
   have hdr := dropW_ev (w := ⟨w.ks.set a R,setFrom w.ls o2 a⟩) (gone := [(b : Int)]) (cut := [o]) (X := .sl 1 [[dI (b : Nat)]]) (Z := .sl 1 [[dI o]]) (by simp only [lls,setFrom_len]; omega) (by
    simp only [lls]
    refine setFrom_rng (fun l hl => ⟨(hw.rng l hl).1,(hw.rng l hl).2.1⟩) fun hk => ⟨?_,(hw.rng _ (mog (lk_of hk))).2.1⟩
    constructor
    ·show (-1 : Int) <= (a : Int); omega
    ·show (a : Int) < _; omega) hFB2.lt hFB2.get ⟨1,rfl,by simp,rfl⟩ ⟨1,rfl,by simp,rfl⟩ (by simp)
   rw [List.set_set] at hdr
   rw [setFrom_map] at hdr
   rw [<- hset] at ho2 hdr
   cases A
   cases B
   exact finrow_go (a1 := cB x) (b1 := cB y) (pa := cB.cBs pa) (pb := cB.cBs pb) hl hb hlt hmax hg ho hget hs' hg2 hra hrb (mkD_one 5 _) (mkD_one 3 _) (mkD_one 5 _) (mkD_one 3 _) hpa hpb (fun bx => clone5_ev (rows := cB x :: cB.cBs pa) (by rw [List.length_cons,cBs_len]; simp at pa1; omega) bx)
    (by rw [cBs_len,cBs_len]; simp at pa1 pb1; omega) hrow ho2 hget2 hdr
theorem inRow_ev {n : Nt} {w : Wb} {bx : List Box} {l : Nat} {N F : D} (hw : InvW n w) (hB : FB bx l N F w) :
  ev cfg (.call 62 [.ptr l 0] bx) = match firstAt (oneAt w) 0 w.ks.length with
   | none => (Rq (B false))
   | some x => some (.ret (B true) (some ⟨bx.set l (fbox N F x),l,false⟩)) := by
 have hkl : (cB.cBs w.ks).length = w.ks.length := cBs_len _
 have loop : ∀ (m i : Nat),i + m = w.ks.length -> ev cfg (.loop 62 2 (q0 bx (sh62_2 (.ptr l 0) (I (cB.cBs w.ks).length) (I i)))) = match firstAt (oneAt w) i m with
   | none => some (.loop (.exit 0) (q0 bx (se62_2 .dead)))
   | some x => some (.loop .ret ⟨(se62_2 (B true)),bx.set l (fbox N F x),bx.length,some l,false⟩) := by
  intro m
  induction m with
  | zero =>
   intro i hi
   exact es (finrow_end hB.lt (by rw [hkl]; omega))
  | succ m ih =>
   intro i hi
   have h := inRow_at hw hB (a := i) (by omega)
   rw [firstAt]
   cases ho : oneAt w i with
   | none =>
    rw [ho] at h
    have h2 := ih (i + 1) (by omega)
    rw [<- h] at h2
    simp only
    cases hf : firstAt (oneAt w) (i + 1) m <;> (rw [hf] at h2; exact es h2)
   | some x =>
    rw [ho] at h
    exact es h
 have h := loop w.ks.length 0 (Nat.zero_add _)
 cases hf : firstAt (oneAt w) 0 w.ks.length with
 | none => rw [hf] at h; exact es (finrow_f hB.lt hB.get h)
 | some x => rw [hf] at h; exact es (finrow_t hB.lt hB.get h)
def wyR (x : Wz) : List D := [dI x.to,dI x.by_,dI x.last]
theorem nR_get {ks : List Nat} {i q : Nat} (h : ks[i]? = some q) : (nR ks)[i]? = some [dI q] := by simp [nR,iR,h]
section
variable {n : Nt} {w : Wb} {bx : List Box} {l : Nat} {N F : D}
theorem wys_get {Q : List Nat} {i q : Nat} (h : Q[i]? = some q) : ((Q.map (followW w)).map wyR)[i]? = some [dI (followW w q).to,dI (followW w q).by_,dI (followW w q).last] := by
 simp [h,wyR]
theorem closing_ev (hN : IsN n N F) (hw : InvW n w) (hB : FB bx l N F w) {s : Nat} (hs : s < w.ks.length) {qz : Nat} {qr : List Nat} (hQ : outsW w.ls s = qz :: qr) {jn : Int} (hjn : jn ≠ 0) (hto : (followW w qz).to < w.ks.length) :
  ev cfg (.call 95 [.ptr l 0,I s,I jn] bx) = some (.ret (.tup
   (if ((outsW w.ls s).all fun q => (followW w qz).to == (followW w q).to) = true then
    [I (followW w qz).to,.own true 3 (((outsW w.ls s).map (followW w)).map wyR),B (decide ((followW w qz).to >= 0) && ((followW w qz).to != (s : Int) && (((gkW n w (followW w qz).to == jn) && (decide (((outsW w.ls (followW w qz).to).length : Int) > 1) == false)) && ((insW w.ls (followW w qz).to).length == (outsW w.ls s).length))))]
   else [I 0,.dat .nil,B false])) none) := by
 have hlens := hw.lens
 have hol : (outsW w.ls s).length <= w.ls.length := idxs_len _ _ _
 have ho := outsW_ev hB.lt hB.get (by omega) (s : Int)
 have hlt : ∀ q ∈ outsW w.ls s,q < w.ls.length := fun q hq => (outsW_lt hq).1
 have hf : ∀ q ∈ outsW w.ls s,ev cfg (.call 98 [.ptr l 0,I (q : Nat)] bx) = Rq (.agg [I (followW w q).to,I (followW w q).by_,I (followW w q).last]) := fun q hq => followW_ev hw hB.lt hB.get (hlt q hq)
 rw [hQ] at ho hlt hf hol ⊢
 have hnl : (nR (qz :: qr)).length = qr.length + 1 := by rw [nR_len]; rfl
 have loop : ∀ (xs : List Nat) (i : Nat) (acc : List Nat),(qz :: qr).drop i = xs -> acc.length + 1 = i -> 
   if (xs.all fun q => (followW w qz).to == (followW w q).to) = true then
    ev cfg (.loop 95 3 (q0 bx (sh95_3 (.ptr l 0) (I s) (I jn) (.own true 3 (wyR (followW w qz) :: (acc.map (followW w)).map wyR)) (.own true 1 (nR (qz :: qr))) (I (nR (qz :: qr)).length) (I i)))) =
     some (.loop (.exit 0) (q0 bx (se95_3 (.ptr l 0) (I s) (I jn) .dead .dead .dead (.own true 3 (wyR (followW w qz) :: ((acc ++ xs).map (followW w)).map wyR)))))
   else ∃ X Y Z U : PV,ev cfg (.loop 95 3 (q0 bx (sh95_3 (.ptr l 0) (I s) (I jn) (.own true 3 (wyR (followW w qz) :: (acc.map (followW w)).map wyR)) (.own true 1 (nR (qz :: qr))) (I (nR (qz :: qr)).length) (I i)))) = some (.loop .ret (q0 bx (se95_3 X Y Z (I 0) (.dat .nil) (B false) U))) := by
  intro xs
  induction xs with
  | nil =>
   intro i acc hd _
   rw [List.all_nil,if_pos rfl,List.append_nil]
   have hge := drop_nil hd
   exact es (fclosing_end (ws := wyR (followW w qz) :: (acc.map (followW w)).map wyR) hB.lt (by rw [hnl]; simpa using hge))
  | cons q xs ih =>
   intro i acc hd ha
   obtain ⟨hget,hd',hlti⟩ := drop_cons hd
   have hfq := hf q (mog hget)
   rw [List.all_cons]
   cases he : ((followW w qz).to == (followW w q).to) with
   | false =>
    rw [Bool.false_and,if_neg fnt]
    have hn : ((followW w qz).to != (followW w q).to) = true := by rw [bne,he]; rfl
    obtain ⟨X,Y,Z,U,h⟩ := fclosing_n (s := s) (jn := jn) (to0 := (followW w qz).to) (by0 := (followW w qz).by_) (la0 := ((followW w qz).last : Nat)) (ws := (acc.map (followW w)).map wyR) hB.lt (nR_get hget) (by rw [hnl]; simpa using hlti) (by rw [hnl]; simp at hol; omega) hfq hn
    exact ⟨X,Y,Z,U,es h⟩
   | true =>
    rw [Bool.true_and]
    have hn : ((followW w qz).to != (followW w q).to) = false := by rw [bne,he]; rfl
    have h := fclosing_y (s := s) (jn := jn) (to0 := (followW w qz).to) (by0 := (followW w qz).by_) (la0 := ((followW w qz).last : Nat)) (ws := (acc.map (followW w)).map wyR) hB.lt (nR_get hget) (by rw [hnl]; simpa using hlti) (by rw [hnl]; simp at hol; omega) hfq hn (by simp at hol hlti ⊢; omega)
    have h2 := ih (i + 1) (acc ++ [q]) hd' (by simp; omega)
    rw [List.map_append,List.map_append,List.append_assoc] at h2
    split
    ·rename_i hall
     rw [if_pos hall] at h2
     exact es (h.trans h2)
    ·rename_i hall
     rw [if_neg hall] at h2
     obtain ⟨X,Y,Z,U,h2⟩ := h2
     exact ⟨X,Y,Z,U,es (h.trans h2)⟩
 have hq0 := hf qz mcs
 have h0 := fclosing_0 (s := s) (jn := jn) (os := nR (qz :: qr)) (i := 0) hB.lt rfl (by rw [hnl]; omega) (by rw [hnl]; simp at hol; omega) hq0
 have h1 := loop qr 1 [] rfl rfl
 rw [List.all_cons,beq_self_eq_true,Bool.true_and]
 have hos : mkS 1 (nR (qz :: qr)) = .own true 1 (nR (qz :: qr)) := rfl
 rw [hos] at ho
 split
 ·rename_i hall
  rw [if_pos hall,List.nil_append] at h1
  have hloop := es (h0.trans h1)
  have hws : ((qz :: qr).map (followW w)).map wyR = wyR (followW w qz) :: (qr.map (followW w)).map wyR := rfl
  rw [hws]
  by_cases c1 : (followW w qz).to >= 0
  ·have d1 : decide ((followW w qz).to >= 0) = true := dqt c1
   by_cases c2 : (followW w qz).to = s
   ·have d2 : ((followW w qz).to != (s : Int)) = false := by simp [c2]
    rw [d1,d2]
    exact es (fclosing_self hB.lt ho hloop d1 d2)
   ·have d2 : ((followW w qz).to != (s : Int)) = true := by simpa using c2
    have his := isW_ev hN hw hB.lt hB.get hto hjn false
    rw [d1,d2]
    cases c3 : ((gkW n w (followW w qz).to == jn) && (decide (((outsW w.ls (followW w qz).to).length : Int) > 1) == false)) with
    | false =>
     rw [c3] at his
     exact es (fclosing_is hB.lt ho hloop d1 d2 his)
    | true =>
     rw [c3] at his
     have hi := insW_ev hB.lt hB.get (by omega) (followW w qz).to
     cases hil : insW w.ls (followW w qz).to with
     | nil =>
      exfalso
      obtain ⟨j,hj⟩ : ∃ j : Nat,(followW w qz).to = j := ⟨(followW w qz).to.toNat,by omega⟩
      have hm : ∃ k,k ∈ insW w.ls (followW w qz).to := by
       rcases follow_cases hw (hlt qz mcs) with ⟨e,_⟩ | ⟨b,o,e1,e2,e3,e4,e5,e6⟩
       ·rw [e]; exact ⟨qz,in_ins (hlt qz mcs)⟩
       ·rw [e6]; exact ⟨o,in_ins e5⟩
      obtain ⟨k,hk⟩ := hm
      rw [hil] at hk; cases hk
     | cons k ks =>
      rw [hil] at hi
      have h2 := fclosing_ins hB.lt ho hloop d1 d2 his hi
      have e : (((nR (k :: ks)).length : Int) == ((((qr.map (followW w)).map wyR).length + 1 : Nat) : Int)) = ((k :: ks).length == (qz :: qr).length) := by
       rw [nR_len,List.length_map,List.length_map,List.length_cons,List.length_cons,Bool.eq_iff_iff,beq_iff_eq,beq_iff_eq]
       omega
      rw [e] at h2
      exact es h2
  ·have d1 : decide ((followW w qz).to >= 0) = false := dqf c1
   rw [d1]
   exact es (fclosing_neg hB.lt ho hloop d1)
 ·rename_i hall
  rw [if_neg hall] at h1
  obtain ⟨X,Y,Z,U,h1⟩ := h1
  exact es (fclosing_no hB.lt ho (es (h0.trans h1)))
theorem by_lt (hw : InvW n w) {q : Nat} (hq : q < w.ls.length) : (followW w q).by_ < w.ks.length := by
 rcases follow_cases hw hq with ⟨e,_⟩ | ⟨b,o,e1,e2,e3,e4,e5,e6⟩
 ·rw [e]; show (-1 : Int) < _; omega
 ·rw [e6]; show (b : Int) < _; omega
theorem to_lt (hw : InvW n w) {q : Nat} (hq : q < w.ls.length) : (followW w q).to < w.ks.length := by
 rcases follow_cases hw hq with ⟨e,_⟩ | ⟨b,o,e1,e2,e3,e4,e5,e6⟩
 ·rw [e]; exact (hw.rng _ (mog (lk_of hq))).2.1.2
 ·rw [e6]; exact (hw.rng _ (mog (lk_of e5))).2.1.2
theorem awaited_ev (hN : IsN n N F) (hw : InvW n w) (hB : FB bx l N F w) {s : Nat} {qz : Nat} {qr : List Nat} (hQ : outsW w.ls s = qz :: qr) :
  ev cfg (.call 96 [.ptr l 0,I s,.dat (.sl 3 (((outsW w.ls s).map (followW w)).map wyR))] bx) = Rq (B ((outsW w.ls s).all (awaitK n w))) := by
 have hlens := hw.lens
 have hol : (outsW w.ls s).length <= w.ls.length := idxs_len _ _ _
 have ho := outsW_ev hB.lt hB.get (by omega) (s : Int)
 have hlt : ∀ q ∈ outsW w.ls s,q < w.ls.length := fun q hq => (outsW_lt hq).1
 have ho : ev cfg (.call 84 [.ptr l 0,I s] bx) = Rq (.own true 1 (nR (outsW w.ls s))) := by rw [ho,hQ]; rfl
 obtain ⟨nr,fr,_,_,_,hF,hfr,_⟩ := hN
 have loop : ∀ (xs : List Nat) (i : Nat),(outsW w.ls s).drop i = xs →
   ev cfg (.loop 96 2 (q0 bx (sh96_2 (.ptr l 0) (.dat (.sl 3 (((outsW w.ls s).map (followW w)).map wyR))) (.own true 1 (nR (outsW w.ls s))) (I (nR (outsW w.ls s)).length) (I i)))) =
    if (xs.all (awaitK n w)) = true then some (.loop (.exit 0) (q0 bx (se96_2 .dead))) else some (.loop .ret (q0 bx (se96_2 (B false)))) := by
  intro xs
  induction xs with
  | nil =>
   intro i hd
   rw [List.all_nil,if_pos rfl]
   exact es (fawait_end hB.lt (by rw [nR_len]; exact drop_nil hd))
  | cons q xs ih =>
   intro i hd
   obtain ⟨hget,hd',hlti⟩ := drop_cons hd
   have hql := hlt q (mog hget)
   have hp := partW_ev (ls := w.ls) hB.lt hB.get (by_lt hw hql)
   have hq := partsW_ev (partW w (followW w q)) bx
   have h1 : i < (nR (outsW w.ls s)).length := by rw [nR_len]; exact hlti
   have h2 : (nR (outsW w.ls s)).length < 9223372036854775808 := by rw [nR_len]; omega
   rw [List.all_cons,awaitK]
   have hpm : partW ⟨w.ks,w.ls⟩ (followW w q) = partW w (followW w q) := rfl
   rw [hpm] at hp
   generalize partW w (followW w q) = p at hp hq
   cases hps : partsB p with
   | nil =>
    rw [hps] at hq
    simp only
    rw [Bool.false_and,if_neg fnt]
    obtain ⟨k,nn,a,ks,ls⟩ := p
    exact es (fawait_nil hB.lt hB.get hF (nR_get hget) h1 h2 (wys_get hget) hp hq)
   | cons c cs =>
    rw [hps] at hq
    simp only
    obtain ⟨k,nn,a,ks,ls⟩ := p
    obtain ⟨pk,pn,pa,pks,pls⟩ := c
    by_cases c1 : pk = 2
    ·have d1 : (pk != 2) = false := by simp [c1]
     have hfl := (hw.rng _ (mog (lk_of hql))).2.2
     obtain ⟨f,hf⟩ : ∃ f : Nat,(lkW w.ls q).2.2 = f := ⟨(lkW w.ls q).2.2.toNat,by omega⟩
     have hfn : f < n.flows.length := by omega
     obtain ⟨row,hrow,hrr⟩ := hfr.get hfn
     obtain ⟨_,_,op,m,KK,rfl,_⟩ := hrr
     have hlk := lnk_getk hql
     rw [hf] at hlk
     have hto : flowTo n w q = n.flows[f].to := by
      rw [flowTo,hf]; simp [hfn]
     rw [hto]
     by_cases c2 : pn = n.flows[f].to
     ·have d2 : (pn != n.flows[f].to) = false := by simp [c2]
      have e : ((Blk.kd (.mk pk pn pa pks pls) == 2) && (Blk.nd (.mk pk pn pa pks pls) == n.flows[f].to)) = true := by
       show ((pk == 2) && (pn == n.flows[f].to)) = true
       simp [c1,c2]
      simp only [e,Bool.true_and]
      have h3 := ih (i + 1) hd'
      have h4 := fawait_y hB.lt hB.get hF (nR_get hget) h1 h2 (wys_get hget) hp hq d1 hlk hrow d2
      split
      ·rename_i ha
       rw [if_pos ha] at h3
       exact es (h4.trans h3)
      ·rename_i ha
       rw [if_neg ha] at h3
       exact es (h4.trans h3)
     ·have d2 : (pn != n.flows[f].to) = true := by simpa using c2
      have e : ((Blk.kd (.mk pk pn pa pks pls) == 2) && (Blk.nd (.mk pk pn pa pks pls) == n.flows[f].to)) = false := by
       show ((pk == 2) && (pn == n.flows[f].to)) = false
       simp [c2]
      simp only [e,Bool.false_and,Bool.false_eq_true,if_false]
      exact es (fawait_n hB.lt hB.get hF (nR_get hget) h1 h2 (wys_get hget) hp hq d1 hlk hrow d2)
    ·have d1 : (pk != 2) = true := by simpa using c1
     have e : ((Blk.kd (.mk pk pn pa pks pls) == 2) && (Blk.nd (.mk pk pn pa pks pls) == flowTo n w q)) = false := by
      show ((pk == 2) && (pn == _)) = false
      simp [c1]
     simp only [e,Bool.false_and,Bool.false_eq_true,if_false]
     exact es (fawait_k hB.lt hB.get hF (nR_get hget) h1 h2 (wys_get hget) hp hq d1)
 have h := loop (outsW w.ls s) 0 rfl
 split at h
 ·rename_i hall
  rw [hall]
  exact es (fawait_callt hB.lt ho h)
 ·rename_i hall
  rw [Bool.not_eq_true] at hall
  rw [hall]
  exact es (fawait_callf hB.lt ho h)
end
section
variable {n : Nt} {w : Wb} {bx : List Box} {l : Nat} {N F : D}
def PieceEv (bx : List Box) (l : Nat) (kd : Int) (x : Wz) (P : Blk) : Prop :=
 ((kd == 6) = false /\ ∀ r1 r2 : Box,ev cfg (.call 97 [.ptr l 0,Aq x.to x.by_ x.last] (bx ++ [r1,r2])) = Rq (pB P)) ∨
 ((kd == 6) = true /\ ∃ (p : Blk) (c : List D) (cs : List (List D)),(∀ r1 r2 : Box,ev cfg (.call 97 [.ptr l 0,Aq x.to x.by_ x.last] (bx ++ [r1,r2])) = Rq (pB p)) ∧
  (Cq 92 [pB p] (.dat (.sl 5 (c :: cs)))) /\ Cq 91 [.dat (.sl 5 cs)] (pB P))
theorem fclosed_round {ws gs cs : List (List D)} {kd s jj nd : Int} {v : Bool} {i : Nat} {x : Wz} {P : Blk} {acc : List Blk} (hl : l < bx.length) (hget : ws[i]? = some (wyR x)) (hlt : i < ws.length) (hmax : ws.length < 1000) (hp : PieceEv bx l kd x P) (hcs : cs.length < 10000) (hgs : gs.length < 10000) (hacc : acc.length < 10000) :
  Jq (.loop 63 15 (qs bx (sh63_15 (.ptr l 0) (I s) (I kd) (I jj) (P0 bx) (.own true 1 gs) (.own true 1 cs) (.own v 3 ws) (I ws.length) (I i)) [[I kd,I nd,I 0,mkS 5 (cB.cBs acc),.dat .nil]])) =
   ev cfg (.loop 63 15 (qs bx (sh63_15 (.ptr l 0) (I s) (I kd) (I jj) (P0 bx) (.own true 1 (if 0 <= x.by_ then gs ++ [[dI x.by_]] else gs)) (.own true 1 (cs ++ [[dI x.last]])) (.own v 3 ws) (I ws.length) (I ((i + 1 : Nat) : Int))) [[I kd,I nd,I 0,mkS 5 (cB.cBs (acc ++ [P])),.dat .nil]])) := by
 have h1 : (cs.length + 1) * 8 <= 140737488355328 := by omega
 have h2 : (gs.length + 1) * 8 <= 140737488355328 := by omega
 have h3 : ((cB.cBs acc).length + 1) * 72 <= 140737488355328 := by rw [cBs_len]; omega
 have hm : ws.length < 9223372036854775808 := by omega
 have ea : mkS 5 (cB.cBs (acc ++ [P])) = .own true 5 (cB.cBs acc ++ [cB P]) := by rw [cBs_app]; exact mkS_app 5 _ _
 rw [ea]
 obtain ⟨pk,pn,pa,pks,pls⟩ := P
 rcases hp with ⟨hkd,hp⟩ | ⟨hkd,p,c,cs',hp,hq,hr⟩
 ·by_cases hb : 0 <= x.by_
  ·rw [if_pos hb]
   cases acc with
   | nil => exact fclosed_i001 hl hget hlt hm (dqt hb) hkd (mkD_one 5 _) (mkD_one 3 _) h1 h2 hp
   | cons a acc => exact fclosed_i011 hl hget hlt hm (dqt hb) hkd (mkD_one 5 _) (mkD_one 3 _) h1 h2 h3 hp
  ·rw [if_neg hb]
   cases acc with
   | nil => exact fclosed_i000 hl hget hlt hm (dqf hb) hkd (mkD_one 5 _) (mkD_one 3 _) h1 hp
   | cons a acc => exact fclosed_i010 hl hget hlt hm (dqf hb) hkd (mkD_one 5 _) (mkD_one 3 _) h1 h3 hp
 ·obtain ⟨ak,an,aa,aks,als⟩ := p
  by_cases hb : 0 <= x.by_
  ·rw [if_pos hb]
   cases acc with
   | nil => exact fclosed_i101 hl hget hlt hm (dqt hb) hkd (mkD_one 5 _) (mkD_one 3 _) h1 h2 (mkD_one 5 _) (mkD_one 3 _) hp hq hr
   | cons a acc => exact fclosed_i111 hl hget hlt hm (dqt hb) hkd (mkD_one 5 _) (mkD_one 3 _) h1 h2 h3 (mkD_one 5 _) (mkD_one 3 _) hp hq hr
  ·rw [if_neg hb]
   cases acc with
   | nil => exact fclosed_i100 hl hget hlt hm (dqf hb) hkd (mkD_one 5 _) (mkD_one 3 _) h1 (mkD_one 5 _) (mkD_one 3 _) hp hq hr
   | cons a acc => exact fclosed_i110 hl hget hlt hm (dqf hb) hkd (mkD_one 5 _) (mkD_one 3 _) h1 h3 (mkD_one 5 _) (mkD_one 3 _) hp hq hr
def bysF (w : Wb) (Q : List Nat) : List Int := (Q.map fun q => (followW w q).by_).filter fun x => decide (0 <= x)
theorem piece_ev (hw : InvW n w) (hB : FB bx l N F w) {q : Nat} (hq : q < w.ls.length) {k kd : Int} (hkd : (kd == 6) = (k == 7)) (hwt : k = 7 -> awaitK n w q = true) : PieceEv bx l kd (followW w q) (pieceW w k (followW w q)) := by
 have hp : ∀ r1 r2 : Box,ev cfg (.call 97 [.ptr l 0,.agg [I (followW w q).to,I (followW w q).by_,I (followW w q).last]] (bx ++ [r1,r2])) = Rq (pB (partW w (followW w q))) := fun r1 r2 => by
  have hE := hB.ex [r1,r2]
  exact partW_ev (ls := w.ls) hE.lt hE.get (by_lt hw hq)
 by_cases h7 : k = 7
 ·refine .inr ⟨by rw [hkd,h7]; rfl,?_⟩
  have hpar := fun bx : List Box => partsW_ev (partW w (followW w q)) bx
  have ha := hwt h7
  rw [awaitK] at ha
  rw [pieceW,if_pos h7]
  have hlen : (partsB (partW w (followW w q))).length <= 64 := by
   rw [partW]
   cases hk : kidW w.ks (followW w q).by_ with
   | none => exact (by decide : (partsB emptyB).length <= 64)
   | some b =>
    rw [kidW] at hk
    split at hk
    ·cases hk
    ·exact (parts_len hw hk).1
  generalize partW w (followW w q) = p at *
  cases hps : partsB p with
  | nil => rw [hps] at ha; cases ha
  | cons c cs =>
   rw [hps] at hpar hlen
   refine ⟨p,cB c,cB.cBs cs,hp,hpar,fun bx => ?_⟩
   have hcl : cs.length <= 1000 := by simp at hlen; omega
   cases cs with
   | nil => exact rowW_ev (bs := []) (.inr ⟨rfl,5,rfl,by simp,rfl⟩) hcl bx
   | cons d cs => exact rowW_ev (bs := d :: cs) (.inl rfl) hcl bx
 ·refine .inl ⟨by rw [hkd]; exact beq_eq_false_iff_ne.2 h7,?_⟩
  rw [pieceW,if_neg h7]
  exact hp
theorem closed_loop (hw : InvW n w) (hB : FB bx l N F w) {s : Nat} {k kd jj nd : Int} {v : Bool} {Q : List Nat} (hQ : Q = outsW w.ls s) (hkd : (kd == 6) = (k == 7)) (hwt : k = 7 -> ∀ q ∈ Q,awaitK n w q = true) :
  ∀ (xs : List Nat) (i : Nat) (acc : List Nat),Q.drop i = xs -> acc.length = i →
   ev cfg (.loop 63 15 (qs bx (sh63_15 (.ptr l 0) (I s) (I kd) (I jj) (P0 bx) (.own true 1 (iR (jj :: bysF w acc))) (.own true 1 (nR (Q ++ acc.map fun q => (followW w q).last))) (.own v 3 ((Q.map (followW w)).map wyR)) (I ((Q.map (followW w)).map wyR).length) (I i)) [[I kd,I nd,I 0,mkS 5 (cB.cBs (acc.map fun q => pieceW w k (followW w q))),.dat .nil]])) =
    some (.loop (.exit 3) (qs bx (se63_15 (.ptr l 0) (I s) (I jj) (P0 bx) (.own true 1 (iR (jj :: bysF w (acc ++ xs)))) (.own true 1 (nR (Q ++ (acc ++ xs).map fun q => (followW w q).last)))) [[I kd,I nd,I 0,mkS 5 (cB.cBs ((acc ++ xs).map fun q => pieceW w k (followW w q))),.dat .nil]])) := by
 have hlens := hw.lens
 have hol : Q.length <= w.ls.length := by rw [hQ]; exact idxs_len _ _ _
 have hlt : ∀ q ∈ Q,q < w.ls.length := fun q hq => by rw [hQ] at hq; exact (outsW_lt hq).1
 have hwl : ((Q.map (followW w)).map wyR).length = Q.length := by simp
 intro xs
 induction xs with
 | nil =>
  intro i acc hd _
  rw [List.append_nil]
  exact es (fclosed_iend hB.lt (by rw [hwl]; exact drop_nil hd))
 | cons q xs ih =>
  intro i acc hd ha
  obtain ⟨hget,hd',hlti⟩ := drop_cons hd
  have hqm := mog hget
  have hpe := piece_ev hw hB (hlt q hqm) hkd (fun h7 => hwt h7 q hqm)
  have hby : (bysF w acc).length <= acc.length := by
   have := List.length_filter_le (fun x => decide (0 <= x)) (acc.map fun q => (followW w q).by_)
   rw [List.length_map] at this
   exact this
  have h := fclosed_round (s := s) (jj := jj) (nd := nd) (v := v) (gs := iR (jj :: bysF w acc)) (cs := nR (Q ++ acc.map fun q => (followW w q).last)) (acc := acc.map fun q => pieceW w k (followW w q)) hB.lt (wys_get hget) (by rw [hwl]; exact hlti) (by rw [hwl]; omega) hpe (by rw [nR_len]; simp; omega) (by rw [iR_len]; simp; omega) (by simp; omega)
  have h2 := ih (i + 1) (acc ++ [q]) hd' (by simp; omega)
  have e1 : iR (jj :: bysF w (acc ++ [q])) = if 0 <= (followW w q).by_ then iR (jj :: bysF w acc) ++ [[dI (followW w q).by_]] else iR (jj :: bysF w acc) := by
   rw [bysF,List.map_append,List.filter_append]
   by_cases h0 : 0 <= (followW w q).by_
   ·rw [if_pos h0]
    simp [h0,iR,bysF]
   ·rw [if_neg h0]
    simp [h0,iR,bysF]
  have e2 : nR (Q ++ (acc ++ [q]).map fun q => (followW w q).last) = nR (Q ++ acc.map fun q => (followW w q).last) ++ [[dI (followW w q).last]] := by
   rw [List.map_append,<- List.append_assoc]
   exact nR_app1 _ _
  rw [e1,e2,List.map_append] at h2
  rw [List.append_assoc] at h2
  exact es (h.trans h2)
end
section
variable {n : Nt} {w : Wb} {bx : List Box} {l : Nat} {N F : D}
def okC (n : Nt) (w : Wb) (s : Nat) (jn t : Int) : Bool := decide (t >= 0) && (t != (s : Int) && (((gkW n w t == jn) && (decide (((outsW w.ls t).length : Int) > 1) == false)) && ((insW w.ls t).length == (outsW w.ls s).length)))
theorem joinOf_ne (k : Int) : joinOf k ≠ 0 := by unfold joinOf; split <;> decide
theorem close_eq (hG : Gates n) (hw : InvW n w) {s qz : Nat} {qr : List Nat} (hQ : outsW w.ls s = qz :: qr) (hk : gkW n w s ≠ 0) (h2 : 2 <= (outsW w.ls s).length) :
  closeAt n w s = if (((outsW w.ls s).all fun q => (followW w qz).to == (followW w q).to) && (okC n w s (joinOf (gkW n w s)) (followW w qz).to && (gkW n w s != 7 || (outsW w.ls s).all (awaitK n w)))) = true then some (followW w qz).to else none := by
 have hhd : hd (outsW w.ls s) = qz := by rw [hQ]; rfl
 unfold closeAt
 simp only [hhd]
 have hone : (followW w qz).to >= 0 -> gkW n w (followW w qz).to ≠ 0 -> ((outsW w.ls (followW w qz).to).length = 1 ↔ ¬ ((outsW w.ls (followW w qz).to).length : Int) > 1) := fun h0 hg => by
  obtain ⟨j,hj⟩ : ∃ j : Nat,(followW w qz).to = j := ⟨(followW w qz).to.toNat,by omega⟩
  rw [hj] at hg ⊢
  obtain ⟨_,_,_,_,_,_,_,_,hc⟩ := gate_ok hG hw hg
  omega
 have hwl : (waysW w s).length = (outsW w.ls s).length := by simp [waysW]
 generalize ht : (followW w qz).to = t at *
 by_cases hA : (((outsW w.ls s).all fun q => t == (followW w q).to) && (okC n w s (joinOf (gkW n w s)) t && (gkW n w s != 7 || (outsW w.ls s).all (awaitK n w)))) = true
 ·rw [if_pos hA]
  simp only [okC,Bool.and_eq_true,dqE,bne_iff_ne,ne_eq,beq_iff_eq,Bool.or_eq_true,List.all_eq_true,decide_eq_false_iff_not] at hA
  obtain ⟨a1,⟨a2,a3,⟨a4,a5⟩,a6⟩,a7⟩ := hA
  have hg0 : gkW n w t ≠ 0 := by rw [a4]; exact joinOf_ne _
  rw [if_neg,if_pos]
  ·simp only [Bool.and_eq_true,List.all_eq_true,beq_iff_eq,Bool.or_eq_true,bne_iff_ne,ne_eq]
   refine ⟨fun x hx => ?_,a7⟩
   obtain ⟨q,hq,rfl⟩ := List.mem_map.1 hx
   exact (a1 q hq).symm
  ·simp only [Bool.or_eq_true,beq_iff_eq,dqE,bne_iff_ne,ne_eq,not_or,Decidable.not_not,Nat.not_lt]
   exact ⟨⟨hk,by rw [hwl]; exact h2⟩,⟨⟨⟨by omega,a3⟩,a4⟩,(hone a2 hg0).2 a5⟩,by rw [hwl]; exact a6⟩
 ·rw [if_neg hA]
  split
  ·rfl
  ·rename_i hc
   rw [if_neg]
   intro hd2
   apply hA
   simp only [Bool.or_eq_true,beq_iff_eq,dqE,bne_iff_ne,ne_eq,not_or,Decidable.not_not,Nat.not_lt] at hc
   obtain ⟨⟨c1,c2⟩,⟨⟨⟨c3,c4⟩,c5⟩,c5b⟩,c6⟩ := hc
   simp only [Bool.and_eq_true,List.all_eq_true,beq_iff_eq,Bool.or_eq_true,bne_iff_ne,ne_eq] at hd2
   have hg0 : gkW n w t ≠ 0 := by rw [c5]; exact joinOf_ne _
   simp only [okC,Bool.and_eq_true,dqE,bne_iff_ne,ne_eq,beq_iff_eq,Bool.or_eq_true,List.all_eq_true,decide_eq_false_iff_not]
   exact ⟨fun q hq => (hd2.1 _ (List.mem_map.2 ⟨q,hq,rfl⟩)).symm,⟨by omega,c4,⟨c5,(hone (by omega) hg0).1 c5b⟩,by rw [<- hwl]; exact c6⟩,hd2.2⟩
theorem set_app {bx : List Box} {l : Nat} {c : Box} {r : List Box} (hl : l < bx.length) : (bx ++ r).set l c = bx.set l c ++ r := by
 rw [List.set_append_left _ _ hl]
theorem closed_at (hG : Gates n) (hN : IsN n N F) (hw : InvW n w) (hB : FB bx l N F w) {s : Nat} (hs : s < w.ks.length) :
  match twoAt n w s with
  | none => Jq (.loop 63 2 (q0 bx (sh63_2 (.ptr l 0) (I (cB.cBs w.ks).length) (I s)))) = ev cfg (.loop 63 2 (q0 bx (sh63_2 (.ptr l 0) (I (cB.cBs w.ks).length) (I ((s + 1 : Nat) : Int)))))
  | some x => Jq (.loop 63 2 (q0 bx (sh63_2 (.ptr l 0) (I (cB.cBs w.ks).length) (I s)))) = some (.loop .ret ⟨(se63_2 (B true)),bx.set l (fbox N F x),bx.length,some l,false⟩) := by
 have hlens := hw.lens
 have hkl : (cB.cBs w.ks).length = w.ks.length := cBs_len _
 have hlt : s < (cB.cBs w.ks).length := by rw [hkl]; exact hs
 have hmax : (cB.cBs w.ks).length < 9223372036854775808 := by rw [hkl]; omega
 have hsi : (s : Int) < w.ks.length := by omega
 have h6 := isW_ev (kd := 6) hN hw hB.lt hB.get hsi (by decide) true
 have h5 := isW_ev (kd := 5) hN hw hB.lt hB.get hsi (by decide) true
 have h7 := isW_ev (kd := 7) hN hw hB.lt hB.get hsi (by decide) true
 have htw : twoAt n w s = match closeAt n w s with
  | none => none
  | some j => some (dropW ⟨w.ks.set s (.mk (blockOf (gkW n w s)) (nodeW w.ks s) 0 ((waysW w s).map (pieceW w (gkW n w s))) []),setFrom w.ls (hd (outsW w.ls j)) s⟩ (j :: ((waysW w s).map (·.by_)).filter fun x => decide (0 <= x)) (outsW w.ls s ++ (waysW w s).map (·.last))) := by
  unfold twoAt
  cases closeAt n w s <;> rfl
 by_cases hA : gkW n w s ≠ 0 /\ 2 <= (outsW w.ls s).length
 case neg =>
  have hcn : closeAt n w s = none := by
   unfold closeAt
   simp only
   rw [if_pos]
   simp only [Bool.or_eq_true,beq_iff_eq,dqE,waysW,List.length_map]
   omega
  rw [htw,hcn]
  have hf : ∀ kd : Int,kd ≠ 0 -> ((gkW n w s == kd) && (decide (((outsW w.ls s).length : Int) > 1) == true)) = false := fun kd hkd => by
   by_cases h0 : gkW n w s = 0
   ·rw [h0,show ((0 : Int) == kd) = false from beq_eq_false_iff_ne.2 (Ne.symm hkd)]; rfl
   ·have : decide (((outsW w.ls s).length : Int) > 1) = false := dqf (by omega)
    rw [this]; simp
  rw [hf 6 (by decide)] at h6
  rw [hf 5 (by decide)] at h5
  rw [hf 7 (by decide)] at h7
  exact fclosed_none hB.lt hB.get hlt hmax h6 h5 h7
 obtain ⟨hk,h2⟩ := hA
 obtain ⟨b,hb,hgs,hb8,hnode,hgk,hnr,hkn,_⟩ := gate_ok hG hw hk
 rw [<- hgk] at hkn
 have hdec : decide (((outsW w.ls s).length : Int) > 1) = true := dqt (by omega)
 rw [hdec] at h6 h5 h7
 simp only [beq_self_eq_true,Bool.and_true] at h6 h5 h7
 obtain ⟨qz,qr,hQ⟩ : ∃ qz qr,outsW w.ls s = qz :: qr := by
  cases h : outsW w.ls s with
  | nil => rw [h] at h2; simp at h2
  | cons q qr => exact ⟨q,qr,rfl⟩
 have hce := close_eq hG hw hQ hk h2
 have hq0 : qz < w.ls.length := (outsW_lt (by rw [hQ]; exact mcs)).1
 have hcl := closing_ev hN hw hB hs hQ (joinOf_ne (gkW n w s)) (to_lt hw hq0)
 have hokc : (decide ((followW w qz).to >= 0) && ((followW w qz).to != (s : Int) && (((gkW n w (followW w qz).to == joinOf (gkW n w s)) && (decide (((outsW w.ls (followW w qz).to).length : Int) > 1) == false)) && ((insW w.ls (followW w qz).to).length == (outsW w.ls s).length)))) = okC n w s (joinOf (gkW n w s)) (followW w qz).to := rfl
 rw [hokc] at hcl
 rw [htw,hce]
 cases hall : (outsW w.ls s).all fun q => (followW w qz).to == (followW w q).to with
 | false =>
  rw [hall] at hcl
  simp only [Bool.false_eq_true,if_false] at hcl
  rw [Bool.false_and,if_neg fnt]
  rcases hkn with e | e | e <;> rw [e] at h6 h5 h7 hcl
  ·exact fclosed_alt_no0 hB.lt hB.get hlt hmax h6 h5 hcl
  ·exact fclosed_par_no0 hB.lt hB.get hlt hmax h6 hcl
  ·exact fclosed_pick_no0 hB.lt hB.get hlt hmax h6 h5 h7 hcl
 | true =>
 rw [hall] at hcl
 simp only [if_true] at hcl
 rw [Bool.true_and]
 cases hok : okC n w s (joinOf (gkW n w s)) (followW w qz).to with
 | false =>
  rw [hok] at hcl
  rw [Bool.false_and,if_neg fnt]
  rcases hkn with e | e | e <;> rw [e] at h6 h5 h7 hcl
  ·exact fclosed_alt_no1 hB.lt hB.get hlt hmax h6 h5 hcl
  ·exact fclosed_par_no1 hB.lt hB.get hlt hmax h6 hcl
  ·exact fclosed_pick_no1 hB.lt hB.get hlt hmax h6 h5 h7 hcl
 | true =>
 rw [hok] at hcl
 rw [Bool.true_and]
 have haw := awaited_ev hN hw hB hQ
 by_cases hwt : (gkW n w s != 7 || (outsW w.ls s).all (awaitK n w)) = true
 case neg =>
  rw [if_neg hwt]
  simp only [Bool.or_eq_true,bne_iff_ne,ne_eq,not_or,Decidable.not_not,Bool.not_eq_true] at hwt
  obtain ⟨e,hf⟩ := hwt
  rw [hf] at haw
  rw [e] at h6 h5 h7 hcl
  exact fclosed_pick_aw hB.lt hB.get hlt hmax h6 h5 h7 hcl haw
 rw [if_pos hwt]
 simp only
 have hok' := hok
 simp only [okC,Bool.and_eq_true,dqE,bne_iff_ne,ne_eq,beq_iff_eq] at hok'
 obtain ⟨t0,ts,⟨tg,tout⟩,_⟩ := hok'
 have htl := to_lt hw hq0
 generalize htq : (followW w qz).to = t at *
 obtain ⟨j,rfl⟩ : ∃ j : Nat,t = j := ⟨t.toNat,by omega⟩
 have hjl : j < w.ks.length := by omega
 have hg0 : gkW n w j ≠ 0 := by rw [tg]; exact joinOf_ne _
 obtain ⟨bj,_,_,_,_,_,_,_,hjc⟩ := gate_ok hG hw hg0
 have hjo1 : (outsW w.ls j).length = 1 := by
  have : ¬ ((outsW w.ls j).length : Int) > 1 := of_decide_eq_false tout
  omega
 have hjo := hd_one hjo1
 have hojl : hd (outsW w.ls j) < w.ls.length := (outsW_lt (hd_mem (by omega))).1
 generalize hd (outsW w.ls j) = oj at *
 have hget2 := lnk_getk hojl
 have hol : (outsW w.ls s).length <= w.ls.length := idxs_len _ _ _
 have hwt7 : gkW n w s = 7 -> ∀ q ∈ outsW w.ls s,awaitK n w q = true := fun h7 q hq => by
  rw [h7] at hwt
  simp only [bne_self_eq_false,Bool.false_or,List.all_eq_true] at hwt
  exact hwt q hq
 have ekd : (blockOf (gkW n w s) == 6) = (gkW n w s == 7) := by
  rcases hkn with e | e | e <;> rw [e] <;> rfl
 have hra := cBs_get hb
 have hwm : (waysW w s).map (pieceW w (gkW n w s)) = (outsW w.ls s).map fun q => pieceW w (gkW n w s) (followW w q) := by rw [waysW,List.map_map]; rfl
 have hbm : ((waysW w s).map (·.by_)).filter (fun x => decide (0 <= x)) = bysF w (outsW w.ls s) := by rw [waysW,List.map_map]; rfl
 have hlm : (waysW w s).map (·.last) = (outsW w.ls s).map fun q => (followW w q).last := by rw [waysW,List.map_map]; rfl
 rw [hwm,hbm,hlm]
 have ho : ∀ r : Box,ev cfg (.call 84 [.ptr l 0,I s] (bx ++ [r])) = Rq (.own true 1 (nR (outsW w.ls s))) := fun r => by
  have hE := hB.ex [r]
  rw [outsW_ev hE.lt hE.get (by omega),hQ]; rfl
 have hin : ∀ v : Bool,_ := fun v : Bool => closed_loop (jj := (j : Int)) (nd := b.nd) (v := v) (kd := blockOf (gkW n w s)) hw hB rfl ekd hwt7 (outsW w.ls s) 0 [] rfl rfl
 simp only [List.map_nil,List.append_nil,List.nil_append] at hin
 have hBd : ∃ P : Blk,P = .mk (blockOf (gkW n w s)) (nodeW w.ks s) 0 ((outsW w.ls s).map fun q => pieceW w (gkW n w s) (followW w q)) [] := ⟨_,rfl⟩
 obtain ⟨P,hP⟩ := hBd
 rw [<- hP]
 have hcP : cB P = [dI (blockOf (gkW n w s)),dI b.nd,dI 0,.sl 5 (cB (pieceW w (gkW n w s) (followW w qz)) :: cB.cBs (qr.map fun q => pieceW w (gkW n w s) (followW w q))),.nil] := by
  rw [hP,cB,hQ,hnode]; rfl
 have hcs : cB.cBs ((outsW w.ls s).map fun q => pieceW w (gkW n w s) (followW w q)) = cB (pieceW w (gkW n w s) (followW w qz)) :: cB.cBs (qr.map fun q => pieceW w (gkW n w s) (followW w q)) := by rw [hQ]; rfl
 rw [hcs] at hin
 have hset : (cB.cBs w.ks).set s [dI (blockOf (gkW n w s)),dI b.nd,dI 0,.sl 5 (cB (pieceW w (gkW n w s) (followW w qz)) :: cB.cBs (qr.map fun q => pieceW w (gkW n w s) (followW w q))),.nil] = cB.cBs (w.ks.set s P) := by rw [<- hcP,cBs_set]
 have hFB1 : FB (bx.set l [.dat N,.dat F,.own true 5 (cB.cBs (w.ks.set s P)),.own true 3 (w.ls.map lnkD)]) l N F ⟨w.ks.set s P,w.ls⟩ := FB.set (w := w) (w' := ⟨w.ks.set s P,w.ls⟩) hB
 have hFB2 : FB (bx.set l [.dat N,.dat F,.own true 5 (cB.cBs (w.ks.set s P)),.own true 3 ((setFrom w.ls oj s).map lnkD)]) l N F ⟨w.ks.set s P,setFrom w.ls oj s⟩ := FB.set (w := w) (w' := ⟨w.ks.set s P,setFrom w.ls oj s⟩) hB
 have ho2 : ∀ r : Box,ev cfg (.call 84 [.ptr l 0,I (j : Nat)] (bx.set l [.dat N,.dat F,.own true 5 (cB.cBs (w.ks.set s P)),.own true 3 (w.ls.map lnkD)] ++ [r])) = Rq (.own true 1 ([dI oj] :: [])) := fun r => by
  have hE := hFB1.ex [r]
  rw [outsW_ev hE.lt hE.get (show w.ls.length <= 1000 by omega),hjo]; rfl
 have hbyl : (bysF w (outsW w.ls s)).length <= (outsW w.ls s).length := by
  have := List.length_filter_le (fun x => decide (0 <= x)) ((outsW w.ls s).map fun q => (followW w q).by_)
  rw [List.length_map] at this
  exact this
 have hdr : ∀ r : Box,ev cfg (.call 93 [.ptr l 0,.dat (.sl 1 (iR ((j : Int) :: bysF w (outsW w.ls s)))),.dat (.sl 1 (nR (outsW w.ls s ++ (outsW w.ls s).map fun q => (followW w q).last)))] (bx.set l [.dat N,.dat F,.own true 5 (cB.cBs (w.ks.set s P)),.own true 3 ((w.ls.map lnkD).set oj [dI (s : Nat),dI (lkW w.ls oj).2.1,dI (lkW w.ls oj).2.2])] ++ [r])) =
   some (.ret (.tup []) (some ⟨bx.set l (fbox N F (dropW ⟨w.ks.set s P,setFrom w.ls oj s⟩ ((j : Int) :: bysF w (outsW w.ls s)) (outsW w.ls s ++ (outsW w.ls s).map fun q => (followW w q).last))) ++ [r],l,false⟩)) := fun r => by
  have hE := hFB2.ex [r]
  have h := dropW_ev (w := ⟨w.ks.set s P,setFrom w.ls oj s⟩) (gone := (j : Int) :: bysF w (outsW w.ls s)) (cut := outsW w.ls s ++ (outsW w.ls s).map fun q => (followW w q).last) (X := .sl 1 (iR ((j : Int) :: bysF w (outsW w.ls s)))) (Z := .sl 1 (nR (outsW w.ls s ++ (outsW w.ls s).map fun q => (followW w q).last))) (by simp only [lls,setFrom_len]; omega) (by
   simp only [lls]
   refine setFrom_rng (fun l hl => ⟨(hw.rng l hl).1,(hw.rng l hl).2.1⟩) fun hk => ⟨?_,(hw.rng _ (mog (lk_of hk))).2.1⟩
   constructor
   ·show (-1 : Int) <= (s : Int); omega
   ·show (s : Int) < _; omega) hE.lt hE.get ⟨1,rfl,by simp,rfl⟩ ⟨1,rfl,by simp,rfl⟩ (by simp; omega)
  rw [setFrom_map] at h
  rw [h,set_app (by simpa using hB.lt),List.set_set]
 rw [<- hset] at ho2 hdr
 have hnd : ∃ k nn a K L,cB b = [dI k,dI nn,dI a,K,L] /\ nn = b.nd := by
  obtain ⟨k,nn,a,ks,ls⟩ := b; exact ⟨k,nn,a,_,_,rfl,rfl⟩
 obtain ⟨bk,bn,ba,bK,bL,hcb,rfl⟩ := hnd
 rw [hcb] at hra
 rcases hkn with e | e | e <;> rw [e] at h6 h5 h7 hcl hin ho2 hdr
 ·exact fclosed_alt (jj := (j : Int)) hB.lt hB.get hlt hmax h6 h5 hcl hra ho (hin true) ho2 hget2 hdr
 ·exact fclosed_par (jj := (j : Int)) hB.lt hB.get hlt hmax h6 hcl hra ho (hin true) ho2 hget2 hdr
 ·have hwq : (outsW w.ls s).all (awaitK n w) = true := List.all_eq_true.2 (hwt7 e)
  rw [hwq] at haw
  exact fclosed_pick (jj := (j : Int)) hB.lt hB.get hlt hmax h6 h5 h7 hcl haw hra ho (hin false) ho2 hget2 hdr
theorem closed_ev (hG : Gates n) (hN : IsN n N F) (hw : InvW n w) (hB : FB bx l N F w) :
  ev cfg (.call 63 [.ptr l 0] bx) = match firstAt (twoAt n w) 0 w.ks.length with
   | none => (Rq (B false))
   | some x => some (.ret (B true) (some ⟨bx.set l (fbox N F x),l,false⟩)) := by
 have hkl : (cB.cBs w.ks).length = w.ks.length := cBs_len _
 have loop : ∀ (m i : Nat),i + m = w.ks.length -> ev cfg (.loop 63 2 (q0 bx (sh63_2 (.ptr l 0) (I (cB.cBs w.ks).length) (I i)))) = match firstAt (twoAt n w) i m with
   | none => some (.loop (.exit 0) (q0 bx (se63_2 .dead)))
   | some x => some (.loop .ret ⟨(se63_2 (B true)),bx.set l (fbox N F x),bx.length,some l,false⟩) := by
  intro m
  induction m with
  | zero =>
   intro i hi
   exact es (fclosed_end hB.lt (by rw [hkl]; omega))
  | succ m ih =>
   intro i hi
   have h := closed_at hG hN hw hB (s := i) (by omega)
   rw [firstAt]
   cases ho : twoAt n w i with
   | none =>
    rw [ho] at h
    have h2 := ih (i + 1) (by omega)
    rw [<- h] at h2
    simp only
    cases hf : firstAt (twoAt n w) (i + 1) m <;> (rw [hf] at h2; exact es h2)
   | some x =>
    rw [ho] at h
    exact es h
 have h := loop w.ks.length 0 (Nat.zero_add _)
 cases hf : firstAt (twoAt n w) 0 w.ks.length with
 | none => rw [hf] at h; exact es (fclosed_f hB.lt hB.get h)
 | some x => rw [hf] at h; exact es (fclosed_t hB.lt hB.get h)
end
end Go.Proofs.YtifckjhggamefaaGreatDoor
