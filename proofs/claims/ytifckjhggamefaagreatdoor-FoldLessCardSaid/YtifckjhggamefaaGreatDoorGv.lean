/- What the folder's closed answers, joined. No condition. -/
import Derived.Test.YtifckjhggamefaaGreatDoorGu
import Derived.Test.YtifckjhggamefaaGreatDoorGk
import Derived.Test.YtifckjhggamefaaGreatDoorGl
set_option linter.unusedSimpArgs false
set_option linter.unusedVariables false
set_option linter.unusedSectionVars false
namespace Go.Proofs.YtifckjhggamefaaGreatDoor
open Go Go.Vx
set_option maxRecDepth 10000
set_option maxHeartbeats 1000000
section
variable {n : Nt} {w : Wb} {bx : List Box} {l : Nat} {N F : D}
def okC (n : Nt) (w : Wb) (s : Nat) (jn t : Int) : Bool := decide (t >= 0) && (t != (s : Int) && (((gkW n w t == jn) && (decide (((outsW w.ls t).length : Int) > 1) == false)) && ((insW w.ls t).length == (outsW w.ls s).length)))
theorem joinOf_ne (k : Int) : joinOf k ≠ 0 := by unfold joinOf; split <;> decide
theorem close_eq (hG : Gates n) (hw : InvW n w) {s qz : Nat} {qr : List Nat} (hQ : outsW w.ls s = qz :: qr) (hk : gkW n w s ≠ 0) (h2 : 2 <= (outsW w.ls s).length) :
  closeAt n w s = if (((outsW w.ls s).all fun q => (followW w qz).to == (followW w q).to) && (okC n w s (joinOf (gkW n w s)) (followW w qz).to && (gkW n w s != 7 || (outsW w.ls s).all (awaitK n w)))) = true then some (followW w qz).to else none := by
 have hhd : hd (outsW w.ls s) = qz := by rw [hQ]; rfl
 unfold closeAt
 simp only [hhd]
 have hone : (followW w qz).to >= 0 -> gkW n w (followW w qz).to ≠ 0 -> ((outsW w.ls (followW w qz).to).length = 1 ↔ ¬ ((outsW w.ls (followW w qz).to).length : Int) > 1) := fun h0 hg => by
  obtain ⟨j,hj⟩ : ∃ j : Nat,(followW w qz).to = j := ⟨(followW w qz).to.toNat,by omega⟩
  rw [hj] at hg ⊢
  obtain ⟨_,_,_,_,_,_,_,_,hc⟩ := gate_ok hG hw hg
  omega
 have hwl : (waysW w s).length = (outsW w.ls s).length := by simp [waysW]
 generalize ht : (followW w qz).to = t at *
 by_cases hA : (((outsW w.ls s).all fun q => t == (followW w q).to) && (okC n w s (joinOf (gkW n w s)) t && (gkW n w s != 7 || (outsW w.ls s).all (awaitK n w)))) = true
 ·rw [if_pos hA]
  simp only [okC,Bool.and_eq_true,dqE,bne_iff_ne,ne_eq,beq_iff_eq,Bool.or_eq_true,List.all_eq_true,decide_eq_false_iff_not] at hA
  obtain ⟨a1,⟨a2,a3,⟨a4,a5⟩,a6⟩,a7⟩ := hA
  have hg0 : gkW n w t ≠ 0 := by rw [a4]; exact joinOf_ne _
  rw [if_neg,if_pos]
  ·simp only [Bool.and_eq_true,List.all_eq_true,beq_iff_eq,Bool.or_eq_true,bne_iff_ne,ne_eq]
   refine ⟨fun x hx => ?_,a7⟩
   obtain ⟨q,hq,rfl⟩ := List.mem_map.1 hx
   exact (a1 q hq).symm
  ·simp only [Bool.or_eq_true,beq_iff_eq,dqE,bne_iff_ne,ne_eq,not_or,Decidable.not_not,Nat.not_lt]
   exact ⟨⟨hk,by rw [hwl]; exact h2⟩,⟨⟨⟨by omega,a3⟩,a4⟩,(hone a2 hg0).2 a5⟩,by rw [hwl]; exact a6⟩
 ·rw [if_neg hA]
  split
  ·rfl
  ·rename_i hc
   rw [if_neg]
   intro hd2
   apply hA
   simp only [Bool.or_eq_true,beq_iff_eq,dqE,bne_iff_ne,ne_eq,not_or,Decidable.not_not,Nat.not_lt] at hc
   obtain ⟨⟨c1,c2⟩,⟨⟨⟨c3,c4⟩,c5⟩,c5b⟩,c6⟩ := hc
   simp only [Bool.and_eq_true,List.all_eq_true,beq_iff_eq,Bool.or_eq_true,bne_iff_ne,ne_eq] at hd2
   have hg0 : gkW n w t ≠ 0 := by rw [c5]; exact joinOf_ne _
   simp only [okC,Bool.and_eq_true,dqE,bne_iff_ne,ne_eq,beq_iff_eq,Bool.or_eq_true,List.all_eq_true,decide_eq_false_iff_not]
   exact ⟨fun q hq => (hd2.1 _ (List.mem_map.2 ⟨q,hq,rfl⟩)).symm,⟨by omega,c4,⟨c5,(hone (by omega) hg0).1 c5b⟩,by rw [<- hwl]; exact c6⟩,hd2.2⟩
theorem set_app {bx : List Box} {l : Nat} {c : Box} {r : List Box} (hl : l < bx.length) : (bx ++ r).set l c = bx.set l c ++ r := by
 rw [List.set_append_left _ _ hl]
theorem closed_at (hG : Gates n) (hN : IsN n N F) (hw : InvW n w) (hB : FB bx l N F w) {s : Nat} (hs : s < w.ks.length) :
  match twoAt n w s with
  | none => Jq (.loop 63 2 (q0 bx (sh63_2 (.ptr l 0) (I (cB.cBs w.ks).length) (I s)))) = ev cfg (.loop 63 2 (q0 bx (sh63_2 (.ptr l 0) (I (cB.cBs w.ks).length) (I ((s + 1 : Nat) : Int)))))
  | some x => Jq (.loop 63 2 (q0 bx (sh63_2 (.ptr l 0) (I (cB.cBs w.ks).length) (I s)))) = some (.loop .ret ⟨(se63_2 (B true)),bx.set l (fbox N F x),bx.length,some l,false⟩) := by
 have hlens := hw.lens
 have hkl : (cB.cBs w.ks).length = w.ks.length := cBs_len _
 have hlt : s < (cB.cBs w.ks).length := by rw [hkl]; exact hs
 have hmax : (cB.cBs w.ks).length < 9223372036854775808 := by rw [hkl]; omega
 have hsi : (s : Int) < w.ks.length := by omega
 have h6 := isW_ev (kd := 6) hN hw hB.lt hB.get hsi (by decide) true
 have h5 := isW_ev (kd := 5) hN hw hB.lt hB.get hsi (by decide) true
 have h7 := isW_ev (kd := 7) hN hw hB.lt hB.get hsi (by decide) true
 have htw : twoAt n w s = match closeAt n w s with
  | none => none
  | some j => some (dropW ⟨w.ks.set s (.mk (blockOf (gkW n w s)) (nodeW w.ks s) 0 ((waysW w s).map (pieceW w (gkW n w s))) []),setFrom w.ls (hd (outsW w.ls j)) s⟩ (j :: ((waysW w s).map (·.by_)).filter fun x => decide (0 <= x)) (outsW w.ls s ++ (waysW w s).map (·.last))) := by
  unfold twoAt
  cases closeAt n w s <;> rfl
 by_cases hA : gkW n w s ≠ 0 /\ 2 <= (outsW w.ls s).length
 case neg =>
  have hcn : closeAt n w s = none := by
   unfold closeAt
   simp only
   rw [if_pos]
   simp only [Bool.or_eq_true,beq_iff_eq,dqE,waysW,List.length_map]
   omega
  rw [htw,hcn]
  have hf : ∀ kd : Int,kd ≠ 0 -> ((gkW n w s == kd) && (decide (((outsW w.ls s).length : Int) > 1) == true)) = false := fun kd hkd => by
   by_cases h0 : gkW n w s = 0
   ·rw [h0,show ((0 : Int) == kd) = false from beq_eq_false_iff_ne.2 (Ne.symm hkd)]; rfl
   ·have : decide (((outsW w.ls s).length : Int) > 1) = false := dqf (by omega)
    rw [this]; simp
  rw [hf 6 (by decide)] at h6
  rw [hf 5 (by decide)] at h5
  rw [hf 7 (by decide)] at h7
  exact fclosed_none hB.lt hB.get hlt hmax h6 h5 h7
 obtain ⟨hk,h2⟩ := hA
 obtain ⟨b,hb,hgs,hb8,hnode,hgk,hnr,hkn,_⟩ := gate_ok hG hw hk
 rw [<- hgk] at hkn
 have hdec : decide (((outsW w.ls s).length : Int) > 1) = true := dqt (by omega)
 rw [hdec] at h6 h5 h7
 simp only [beq_self_eq_true,Bool.and_true] at h6 h5 h7
 obtain ⟨qz,qr,hQ⟩ : ∃ qz qr,outsW w.ls s = qz :: qr := by
  cases h : outsW w.ls s with
  | nil => rw [h] at h2; simp at h2
  | cons q qr => exact ⟨q,qr,rfl⟩
 have hce := close_eq hG hw hQ hk h2
 have hq0 : qz < w.ls.length := (outsW_lt (by rw [hQ]; exact mcs)).1
 have hcl := closing_ev hN hw hB hs hQ (joinOf_ne (gkW n w s)) (to_lt hw hq0)
 have hokc : (decide ((followW w qz).to >= 0) && ((followW w qz).to != (s : Int) && (((gkW n w (followW w qz).to == joinOf (gkW n w s)) && (decide (((outsW w.ls (followW w qz).to).length : Int) > 1) == false)) && ((insW w.ls (followW w qz).to).length == (outsW w.ls s).length)))) = okC n w s (joinOf (gkW n w s)) (followW w qz).to := rfl
 rw [hokc] at hcl
 rw [htw,hce]
 cases hall : (outsW w.ls s).all fun q => (followW w qz).to == (followW w q).to with
 | false =>
  rw [hall] at hcl
  simp only [Bool.false_eq_true,if_false] at hcl
  rw [Bool.false_and,if_neg fnt]
  rcases hkn with e | e | e <;> rw [e] at h6 h5 h7 hcl
  ·exact fclosed_alt_no0 hB.lt hB.get hlt hmax h6 h5 hcl
  ·exact fclosed_par_no0 hB.lt hB.get hlt hmax h6 hcl
  ·exact fclosed_pick_no0 hB.lt hB.get hlt hmax h6 h5 h7 hcl
 | true =>
 rw [hall] at hcl
 simp only [if_true] at hcl
 rw [Bool.true_and]
 cases hok : okC n w s (joinOf (gkW n w s)) (followW w qz).to with
 | false =>
  rw [hok] at hcl
  rw [Bool.false_and,if_neg fnt]
  rcases hkn with e | e | e <;> rw [e] at h6 h5 h7 hcl
  ·exact fclosed_alt_no1 hB.lt hB.get hlt hmax h6 h5 hcl
  ·exact fclosed_par_no1 hB.lt hB.get hlt hmax h6 hcl
  ·exact fclosed_pick_no1 hB.lt hB.get hlt hmax h6 h5 h7 hcl
 | true =>
 rw [hok] at hcl
 rw [Bool.true_and]
 have haw := awaited_ev hN hw hB hQ
 by_cases hwt : (gkW n w s != 7 || (outsW w.ls s).all (awaitK n w)) = true
 case neg =>
  rw [if_neg hwt]
  simp only [Bool.or_eq_true,bne_iff_ne,ne_eq,not_or,Decidable.not_not,Bool.not_eq_true] at hwt
  obtain ⟨e,hf⟩ := hwt
  rw [hf] at haw
  rw [e] at h6 h5 h7 hcl
  exact fclosed_pick_aw hB.lt hB.get hlt hmax h6 h5 h7 hcl haw
 rw [if_pos hwt]
 simp only
 have hok' := hok
 simp only [okC,Bool.and_eq_true,dqE,bne_iff_ne,ne_eq,beq_iff_eq] at hok'
 obtain ⟨t0,ts,⟨tg,tout⟩,_⟩ := hok'
 have htl := to_lt hw hq0
 generalize htq : (followW w qz).to = t at *
 obtain ⟨j,rfl⟩ : ∃ j : Nat,t = j := ⟨t.toNat,by omega⟩
 have hjl : j < w.ks.length := by omega
 have hg0 : gkW n w j ≠ 0 := by rw [tg]; exact joinOf_ne _
 obtain ⟨bj,_,_,_,_,_,_,_,hjc⟩ := gate_ok hG hw hg0
 have hjo1 : (outsW w.ls j).length = 1 := by
  have : ¬ ((outsW w.ls j).length : Int) > 1 := of_decide_eq_false tout
  omega
 have hjo := hd_one hjo1
 have hojl : hd (outsW w.ls j) < w.ls.length := (outsW_lt (hd_mem (by omega))).1
 generalize hd (outsW w.ls j) = oj at *
 have hget2 := lnk_getk hojl
 have hol : (outsW w.ls s).length <= w.ls.length := idxs_len _ _ _
 have hwt7 : gkW n w s = 7 -> ∀ q ∈ outsW w.ls s,awaitK n w q = true := fun h7 q hq => by
  rw [h7] at hwt
  simp only [bne_self_eq_false,Bool.false_or,List.all_eq_true] at hwt
  exact hwt q hq
 have ekd : (blockOf (gkW n w s) == 6) = (gkW n w s == 7) := by
  rcases hkn with e | e | e <;> rw [e] <;> rfl
 have hra := cBs_get hb
 have hwm : (waysW w s).map (pieceW w (gkW n w s)) = (outsW w.ls s).map fun q => pieceW w (gkW n w s) (followW w q) := by rw [waysW,List.map_map]; rfl
 have hbm : ((waysW w s).map (·.by_)).filter (fun x => decide (0 <= x)) = bysF w (outsW w.ls s) := by rw [waysW,List.map_map]; rfl
 have hlm : (waysW w s).map (·.last) = (outsW w.ls s).map fun q => (followW w q).last := by rw [waysW,List.map_map]; rfl
 rw [hwm,hbm,hlm]
 have ho : ∀ r : Box,ev cfg (.call 84 [.ptr l 0,I s] (bx ++ [r])) = Rq (.own true 1 (nR (outsW w.ls s))) := fun r => by
  have hE := hB.ex [r]
  rw [outsW_ev hE.lt hE.get (by omega),hQ]; rfl
 have hin : ∀ v : Bool,_ := fun v : Bool => closed_loop (jj := (j : Int)) (nd := b.nd) (v := v) (kd := blockOf (gkW n w s)) hw hB rfl ekd hwt7 (outsW w.ls s) 0 [] rfl rfl
 simp only [List.map_nil,List.append_nil,List.nil_append] at hin
 have hBd : ∃ P : Blk,P = .mk (blockOf (gkW n w s)) (nodeW w.ks s) 0 ((outsW w.ls s).map fun q => pieceW w (gkW n w s) (followW w q)) [] := ⟨_,rfl⟩
 obtain ⟨P,hP⟩ := hBd
 rw [<- hP]
 have hcP : cB P = [dI (blockOf (gkW n w s)),dI b.nd,dI 0,.sl 5 (cB (pieceW w (gkW n w s) (followW w qz)) :: cB.cBs (qr.map fun q => pieceW w (gkW n w s) (followW w q))),.nil] := by
  rw [hP,cB,hQ,hnode]; rfl
 have hcs : cB.cBs ((outsW w.ls s).map fun q => pieceW w (gkW n w s) (followW w q)) = cB (pieceW w (gkW n w s) (followW w qz)) :: cB.cBs (qr.map fun q => pieceW w (gkW n w s) (followW w q)) := by rw [hQ]; rfl
 rw [hcs] at hin
 have hset : (cB.cBs w.ks).set s [dI (blockOf (gkW n w s)),dI b.nd,dI 0,.sl 5 (cB (pieceW w (gkW n w s) (followW w qz)) :: cB.cBs (qr.map fun q => pieceW w (gkW n w s) (followW w q))),.nil] = cB.cBs (w.ks.set s P) := by rw [<- hcP,cBs_set]
 have hFB1 : FB (bx.set l [.dat N,.dat F,.own true 5 (cB.cBs (w.ks.set s P)),.own true 3 (w.ls.map lnkD)]) l N F ⟨w.ks.set s P,w.ls⟩ := FB.set (w := w) (w' := ⟨w.ks.set s P,w.ls⟩) hB
 have hFB2 : FB (bx.set l [.dat N,.dat F,.own true 5 (cB.cBs (w.ks.set s P)),.own true 3 ((setFrom w.ls oj s).map lnkD)]) l N F ⟨w.ks.set s P,setFrom w.ls oj s⟩ := FB.set (w := w) (w' := ⟨w.ks.set s P,setFrom w.ls oj s⟩) hB
 have ho2 : ∀ r : Box,ev cfg (.call 84 [.ptr l 0,I (j : Nat)] (bx.set l [.dat N,.dat F,.own true 5 (cB.cBs (w.ks.set s P)),.own true 3 (w.ls.map lnkD)] ++ [r])) = Rq (.own true 1 ([dI oj] :: [])) := fun r => by
  have hE := hFB1.ex [r]
  rw [outsW_ev hE.lt hE.get (show w.ls.length <= 1000 by omega),hjo]; rfl
 have hbyl : (bysF w (outsW w.ls s)).length <= (outsW w.ls s).length := by
  have := List.length_filter_le (fun x => decide (0 <= x)) ((outsW w.ls s).map fun q => (followW w q).by_)
  rw [List.length_map] at this
  exact this
 have hdr : ∀ r : Box,ev cfg (.call 93 [.ptr l 0,.dat (.sl 1 (iR ((j : Int) :: bysF w (outsW w.ls s)))),.dat (.sl 1 (nR (outsW w.ls s ++ (outsW w.ls s).map fun q => (followW w q).last)))] (bx.set l [.dat N,.dat F,.own true 5 (cB.cBs (w.ks.set s P)),.own true 3 ((w.ls.map lnkD).set oj [dI (s : Nat),dI (lkW w.ls oj).2.1,dI (lkW w.ls oj).2.2])] ++ [r])) =
   some (.ret (.tup []) (some ⟨bx.set l (fbox N F (dropW ⟨w.ks.set s P,setFrom w.ls oj s⟩ ((j : Int) :: bysF w (outsW w.ls s)) (outsW w.ls s ++ (outsW w.ls s).map fun q => (followW w q).last))) ++ [r],l,false⟩)) := fun r => by
  have hE := hFB2.ex [r]
  have h := dropW_ev (w := ⟨w.ks.set s P,setFrom w.ls oj s⟩) (gone := (j : Int) :: bysF w (outsW w.ls s)) (cut := outsW w.ls s ++ (outsW w.ls s).map fun q => (followW w q).last) (X := .sl 1 (iR ((j : Int) :: bysF w (outsW w.ls s)))) (Z := .sl 1 (nR (outsW w.ls s ++ (outsW w.ls s).map fun q => (followW w q).last))) (by simp only [lls,setFrom_len]; omega) (by
   simp only [lls]
   refine setFrom_rng (fun l hl => ⟨(hw.rng l hl).1,(hw.rng l hl).2.1⟩) fun hk => ⟨?_,(hw.rng _ (mog (lk_of hk))).2.1⟩
   constructor
   ·show (-1 : Int) <= (s : Int); omega
   ·show (s : Int) < _; omega) hE.lt hE.get ⟨1,rfl,by simp,rfl⟩ ⟨1,rfl,by simp,rfl⟩ (by simp; omega)
  rw [setFrom_map] at h
  rw [h,set_app (by simpa using hB.lt),List.set_set]
 rw [<- hset] at ho2 hdr
 have hnd : ∃ k nn a K L,cB b = [dI k,dI nn,dI a,K,L] /\ nn = b.nd := by
  obtain ⟨k,nn,a,ks,ls⟩ := b; exact ⟨k,nn,a,_,_,rfl,rfl⟩
 obtain ⟨bk,bn,ba,bK,bL,hcb,rfl⟩ := hnd
 rw [hcb] at hra
 rcases hkn with e | e | e <;> rw [e] at h6 h5 h7 hcl hin ho2 hdr
 ·exact fclosed_alt (jj := (j : Int)) hB.lt hB.get hlt hmax h6 h5 hcl hra ho (hin true) ho2 hget2 hdr
 ·exact fclosed_par (jj := (j : Int)) hB.lt hB.get hlt hmax h6 hcl hra ho (hin true) ho2 hget2 hdr
 ·have hwq : (outsW w.ls s).all (awaitK n w) = true := List.all_eq_true.2 (hwt7 e)
  rw [hwq] at haw
  exact fclosed_pick (jj := (j : Int)) hB.lt hB.get hlt hmax h6 h5 h7 hcl haw hra ho (hin false) ho2 hget2 hdr
theorem closed_ev (hG : Gates n) (hN : IsN n N F) (hw : InvW n w) (hB : FB bx l N F w) :
  ev cfg (.call 63 [.ptr l 0] bx) = match firstAt (twoAt n w) 0 w.ks.length with
   | none => (Rq (B false))
   | some x => some (.ret (B true) (some ⟨bx.set l (fbox N F x),l,false⟩)) := by
 have hkl : (cB.cBs w.ks).length = w.ks.length := cBs_len _
 have loop : ∀ (m i : Nat),i + m = w.ks.length -> ev cfg (.loop 63 2 (q0 bx (sh63_2 (.ptr l 0) (I (cB.cBs w.ks).length) (I i)))) = match firstAt (twoAt n w) i m with
   | none => some (.loop (.exit 0) (q0 bx (se63_2 .dead)))
   | some x => some (.loop .ret ⟨(se63_2 (B true)),bx.set l (fbox N F x),bx.length,some l,false⟩) := by
  intro m
  induction m with
  | zero =>
   intro i hi
   exact es (fclosed_end hB.lt (by rw [hkl]; omega))
  | succ m ih =>
   intro i hi
   have h := closed_at hG hN hw hB (s := i) (by omega)
   rw [firstAt]
   cases ho : twoAt n w i with
   | none =>
    rw [ho] at h
    have h2 := ih (i + 1) (by omega)
    rw [<- h] at h2
    simp only
    cases hf : firstAt (twoAt n w) (i + 1) m <;> (rw [hf] at h2; exact es h2)
   | some x =>
    rw [ho] at h
    exact es h
 have h := loop w.ks.length 0 (Nat.zero_add _)
 cases hf : firstAt (twoAt n w) 0 w.ks.length with
 | none => rw [hf] at h; exact es (fclosed_f hB.lt hB.get h)
 | some x => rw [hf] at h; exact es (fclosed_t hB.lt hB.get h)
end
section
variable {n : Nt} {w : Wb} {bx : List Box} {l : Nat} {N F : D}
theorem round_step {os cs gs ws : List (List D)} {s lv : Int} {i : Nat} {y : Wz} {z0 z1 z2 z3 z4 : Box} (hl : l < bx.length) (y0 : z0.all (cellLt (bx.length + 5)) = true) (y1 : z1.all (cellLt (bx.length + 5)) = true) (y2 : z2.all (cellLt (bx.length + 5)) = true) (y3 : z3.all (cellLt (bx.length + 5)) = true) (y4 : z4.all (cellLt (bx.length + 5)) = true)
  (hget : ws[i]? = some (wyR y)) (hlt : i < ws.length) (hmax : ws.length < 1000) (hgs : gs.length < 1000) :
  Jq (.loop 64 18 (qs bx (sh64_18 (.ptr l 0) (I s) (.own true 1 os) (I lv) (P4 bx) (.own true 1 cs) (.own true 1 gs) (.own true 3 ws) (I ws.length) (I i)) [z0,z1,z2,z3,z4])) =
   ev cfg (.loop 64 18 (qs bx (sh64_18 (.ptr l 0) (I s) (.own true 1 os) (I lv) (P4 bx) (.own true 1 cs) (.own true 1 (gs ++ if 0 <= y.by_ then [[dI y.by_]] else [])) (.own true 3 ws) (I ws.length) (I ((i + 1 : Nat) : Int))) [z0,z1,z2,z3,z4])) := by
 by_cases h0 : 0 <= y.by_
 ·rw [if_pos h0]
  exact fround_i1 hl y0 y1 y2 y3 y4 hget hlt (by omega) (dqt h0) (by omega)
 ·rw [if_neg h0,List.append_nil]
  exact fround_i0 hl y0 y1 y2 y3 y4 hget hlt (by omega) (dqf h0)
theorem round_loop {os cs : List (List D)} {s lv : Int} {sj : Int} {d g : Wz} (hl : l < bx.length) (z0 z1 z2 z3 z4 : Box) (y0 : z0.all (cellLt (bx.length + 5)) = true) (y1 : z1.all (cellLt (bx.length + 5)) = true) (y2 : z2.all (cellLt (bx.length + 5)) = true) (y3 : z3.all (cellLt (bx.length + 5)) = true) (y4 : z4.all (cellLt (bx.length + 5)) = true) :
  ev cfg (.loop 64 18 (qs bx (sh64_18 (.ptr l 0) (I s) (.own true 1 os) (I lv) (P4 bx) (.own true 1 cs) (.own true 1 [[dI sj]]) (.own true 3 [wyR d,wyR g]) (I ((2 : Nat) : Int)) (I 0)) [z0,z1,z2,z3,z4])) =
   some (.loop (.exit 2) (qs bx (se64_18 (.ptr l 0) (I s) (.own true 1 os) (I lv) (P4 bx) (.own true 1 cs) (.own true 1 (iR ([sj] ++ [d.by_,g.by_].filter fun x => decide (0 <= x))))) [z0,z1,z2,z3,z4])) := by
 have e : iR ([sj] ++ [d.by_,g.by_].filter fun x => decide (0 <= x)) = ([[dI sj]] ++ if 0 <= d.by_ then [[dI d.by_]] else []) ++ if 0 <= g.by_ then [[dI g.by_]] else [] := by
  by_cases h1 : 0 <= d.by_ <;> by_cases h2 : 0 <= g.by_ <;> simp [h1,h2,iR]
 rw [e]
 have h1 := round_step (ws := [wyR d,wyR g]) (i := 0) (y := d) (os := os) (cs := cs) (gs := [[dI sj]]) (s := s) (lv := lv) hl y0 y1 y2 y3 y4 rfl (by simp) (by simp) (by simp)
 have h2 := round_step (ws := [wyR d,wyR g]) (i := 1) (y := g) (os := os) (cs := cs) (gs := [[dI sj]] ++ if 0 <= d.by_ then [[dI d.by_]] else []) (s := s) (lv := lv) hl y0 y1 y2 y3 y4 rfl (by simp) (by simp) (by split <;> simp)
 have h3 := fround_iend (l := l) (ws := [wyR d,wyR g]) (os := os) (cs := cs) (s := s) (lv := lv) (gs := ([[dI sj]] ++ if 0 <= d.by_ then [[dI d.by_]] else []) ++ if 0 <= g.by_ then [[dI g.by_]] else []) hl y0 y1 y2 y3 y4 (m := 2) (i := 2) (Nat.le_refl _)
 exact es (h1.trans (es (h2.trans (es h3))))
theorem three_eq {j : Nat} : threeAt n w j = if (gkW n w j != 5 || (insW w.ls j).length != 2 || (outsW w.ls j).length != 1) = true then none
  else if (gkW n w (followW w (hd (outsW w.ls j))).to != 5 || (outsW w.ls (followW w (hd (outsW w.ls j))).to).length != 2) = true then none
  else if ((followW w ((outsW w.ls (followW w (hd (outsW w.ls j))).to).getD 0 0)).to == (j : Int)) = ((followW w ((outsW w.ls (followW w (hd (outsW w.ls j))).to).getD 1 0)).to == (j : Int)) then none
  else if ((followW w ((outsW w.ls (followW w (hd (outsW w.ls j))).to).getD 1 0)).to == (j : Int)) = true then
   some (dropW ⟨w.ks.set j (.mk 7 (nodeW w.ks (followW w (hd (outsW w.ls j))).to) 0 [partW w (followW w (hd (outsW w.ls j))),partW w (followW w ((outsW w.ls (followW w (hd (outsW w.ls j))).to).getD 1 0))] []),setFrom w.ls ((outsW w.ls (followW w (hd (outsW w.ls j))).to).getD 0 0) j⟩
    ([(followW w (hd (outsW w.ls j))).to] ++ ([(followW w (hd (outsW w.ls j))).by_,(followW w ((outsW w.ls (followW w (hd (outsW w.ls j))).to).getD 1 0)).by_].filter (fun x => decide (0 <= x))))
    [hd (outsW w.ls j),(followW w (hd (outsW w.ls j))).last,(outsW w.ls (followW w (hd (outsW w.ls j))).to).getD 1 0,(followW w ((outsW w.ls (followW w (hd (outsW w.ls j))).to).getD 1 0)).last])
  else
   some (dropW ⟨w.ks.set j (.mk 7 (nodeW w.ks (followW w (hd (outsW w.ls j))).to) 1 [partW w (followW w (hd (outsW w.ls j))),partW w (followW w ((outsW w.ls (followW w (hd (outsW w.ls j))).to).getD 0 0))] []),setFrom w.ls ((outsW w.ls (followW w (hd (outsW w.ls j))).to).getD 1 0) j⟩
    ([(followW w (hd (outsW w.ls j))).to] ++ ([(followW w (hd (outsW w.ls j))).by_,(followW w ((outsW w.ls (followW w (hd (outsW w.ls j))).to).getD 0 0)).by_].filter (fun x => decide (0 <= x))))
    [hd (outsW w.ls j),(followW w (hd (outsW w.ls j))).last,(outsW w.ls (followW w (hd (outsW w.ls j))).to).getD 0 0,(followW w ((outsW w.ls (followW w (hd (outsW w.ls j))).to).getD 0 0)).last]) := by
 unfold threeAt
 simp only
 split
 ·rfl
 ·split
  ·rfl
  ·split
   ·rfl
   ·split <;> rename_i h <;> simp [h]
theorem round_at (hG : Gates n) (hN : IsN n N F) (hw : InvW n w) (hB : FB bx l N F w) {j : Nat} (hj : j < w.ks.length) :
  match threeAt n w j with
  | none => Jq (.loop 64 2 (q0 bx (sh64_2 (.ptr l 0) (I (cB.cBs w.ks).length) (I j)))) = ev cfg (.loop 64 2 (q0 bx (sh64_2 (.ptr l 0) (I (cB.cBs w.ks).length) (I ((j + 1 : Nat) : Int)))))
  | some x => Jq (.loop 64 2 (q0 bx (sh64_2 (.ptr l 0) (I (cB.cBs w.ks).length) (I j)))) = some (.loop .ret ⟨(se64_2 (B true)),bx.set l (fbox N F x),bx.length,some l,false⟩) := by
 have hlens := hw.lens
 have hkl : (cB.cBs w.ks).length = w.ks.length := cBs_len _
 have hlt : j < (cB.cBs w.ks).length := by rw [hkl]; exact hj
 have hmax : (cB.cBs w.ks).length < 9223372036854775808 := by rw [hkl]; omega
 have h1 := isW_ev (kd := 5) hN hw hB.lt hB.get (show (j : Int) < w.ks.length by omega) (by decide) false
 by_cases c1 : gkW n w j = 5 /\ (outsW w.ls j).length = 1
 case neg =>
  have e : ((gkW n w j == 5) && (decide (((outsW w.ls j).length : Int) > 1) == false)) = false := by
   by_cases h5 : gkW n w j = 5
   ·obtain ⟨_,_,_,_,_,_,_,_,hc⟩ := gate_ok hG hw (s := j) (by rw [h5]; decide)
    have : decide (((outsW w.ls j).length : Int) > 1) = true := dqt (by omega)
    rw [this]; simp
   ·rw [show (gkW n w j == 5) = false from beq_eq_false_iff_ne.2 h5]; rfl
  rw [e] at h1
  have ht : threeAt n w j = none := by
   rw [three_eq,if_pos]
   simp only [Bool.or_eq_true,bne_iff_ne,ne_eq]
   omega
  rw [ht]
  exact fround_p1 hB.lt hB.get hlt hmax h1
 obtain ⟨g5,o1⟩ := c1
 have e : ((gkW n w j == 5) && (decide (((outsW w.ls j).length : Int) > 1) == false)) = true := by
  rw [g5,o1]; rfl
 rw [e] at h1
 have h2 := insW_ev hB.lt hB.get (by omega) (j : Int)
 have hins : ∃ k ks,insW w.ls j = k :: ks := by
  obtain ⟨_,_,_,_,_,_,_,_,hc⟩ := gate_ok hG hw (s := j) (by rw [g5]; decide)
  cases hi : insW w.ls j with
  | nil => rw [hi] at hc; simp at hc
  | cons k ks => exact ⟨k,ks,rfl⟩
 obtain ⟨ik,iks,hik⟩ := hins
 have h2 : ev cfg (.call 83 [.ptr l 0,I j] bx) = Rq (.own true 1 (nR (insW w.ls j))) := by rw [h2,hik]; rfl
 by_cases c2 : (insW w.ls j).length = 2
 case neg =>
  have n2 : (((nR (insW w.ls j)).length : Int) != 2) = true := by rw [nR_len]; simp; omega
  have ht : threeAt n w j = none := by
   rw [three_eq,if_pos]
   simp only [Bool.or_eq_true,bne_iff_ne,ne_eq]
   omega
  rw [ht]
  exact fround_p2 hB.lt hB.get hlt hmax h1 h2 n2
 have n2 : (((nR (insW w.ls j)).length : Int) != 2) = false := by rw [nR_len,c2]; rfl
 have hth := three_eq (n := n) (w := w) (j := j)
 rw [if_neg (by rw [g5,c2,o1]; decide)] at hth
 have hjo := hd_one o1
 have hol : hd (outsW w.ls j) < w.ls.length := (outsW_lt (hd_mem (by omega))).1
 have h3 := outsW_ev hB.lt hB.get (by omega) (j : Int)
 rw [hth]
 clear hth
 rw [hjo] at h3
 generalize hqo : hd (outsW w.ls j) = oj at *
 have h3 : ev cfg (.call 84 [.ptr l 0,I j] bx) = Rq (.own true 1 ([dI oj] :: [])) := h3
 have h4 := followW_ev hw hB.lt hB.get hol
 have hdlt := to_lt hw hol
 have h5 : ∀ r : Box,_ := fun r : Box => isW_ev (kd := 5) hN hw (hB.ex [r]).lt (hB.ex [r]).get hdlt (by decide) true
 have h6 : ∀ r : Box,_ := fun r : Box => outsW_ev (hB.ex [r]).lt (hB.ex [r]).get (by omega) (followW w oj).to
 by_cases c3 : gkW n w (followW w oj).to = 5 /\ (outsW w.ls (followW w oj).to).length > 1
 case neg =>
  have e : ((gkW n w (followW w oj).to == 5) && (decide (((outsW w.ls (followW w oj).to).length : Int) > 1) == true)) = false := by
   by_cases h5 : gkW n w (followW w oj).to = 5
   ·have : decide (((outsW w.ls (followW w oj).to).length : Int) > 1) = false := dqf (by omega)
    rw [this]; simp
   ·rw [show (gkW n w (followW w oj).to == 5) = false from beq_eq_false_iff_ne.2 h5]; rfl
  rw [e] at h5
  rw [if_pos (by simp only [Bool.or_eq_true,bne_iff_ne,ne_eq]; omega)]
  exact fround_p3 hB.lt hB.get hlt hmax h1 h2 n2 h3 h4 h5
 obtain ⟨gs5,os1⟩ := c3
 have e : ((gkW n w (followW w oj).to == 5) && (decide (((outsW w.ls (followW w oj).to).length : Int) > 1) == true)) = true := by
  rw [gs5,dqt (show ((outsW w.ls (followW w oj).to).length : Int) > 1 by omega)]; rfl
 rw [e] at h5
 by_cases c4 : (outsW w.ls (followW w oj).to).length = 2
 case neg =>
  rw [if_pos (by simp only [Bool.or_eq_true,bne_iff_ne,ne_eq]; omega)]
  have h6' : ∀ r : Box,ev cfg (.call 84 [.ptr l 0,I (followW w oj).to] (bx ++ [r])) = Rq (.own true 1 (nR (outsW w.ls (followW w oj).to))) := fun r => by
   rw [h6 r]
   cases ho : outsW w.ls (followW w oj).to with
   | nil => rw [ho] at os1; simp at os1
   | cons => rfl
  exact fround_p4 hB.lt hB.get hlt hmax h1 h2 n2 h3 h4 h5 h6' (by rw [nR_len]; simp; omega)
 rw [if_neg (by rw [gs5,c4]; decide)]
 have hso := two_list c4
 have hoal : (outsW w.ls (followW w oj).to).getD 0 0 < w.ls.length /\ (outsW w.ls (followW w oj).to).getD 1 0 < w.ls.length := by
  constructor
  ·refine (outsW_lt (x := (followW w oj).to) ?_).1
   rw [hso]; simp
  ·refine (outsW_lt (x := (followW w oj).to) ?_).1
   rw [hso]; simp
 generalize (outsW w.ls (followW w oj).to).getD 0 0 = oa at *
 generalize (outsW w.ls (followW w oj).to).getD 1 0 = ob at *
 obtain ⟨hal,hbl⟩ := hoal
 have h6' : ∀ r : Box,ev cfg (.call 84 [.ptr l 0,I (followW w oj).to] (bx ++ [r])) = Rq (.own true 1 [[dI oa],[dI ob]]) := fun r => by
  rw [h6 r,hso]; rfl
 have h7 : ∀ r : Box,_ := fun r : Box => followW_ev hw (hB.ex [r]).lt (hB.ex [r]).get hal
 have h8 : ∀ r : Box,_ := fun r : Box => followW_ev hw (hB.ex [r]).lt (hB.ex [r]).get hbl
 by_cases c5 : ((followW w oa).to == (j : Int)) = ((followW w ob).to == (j : Int))
 ·rw [if_pos c5]
  exact fround_p5 hB.lt hB.get hlt hmax h1 h2 n2 h3 h4 h5 h6' h7 h8 (by rw [c5]; simp)
 rw [if_neg c5]
 have hd0 : ¬ (followW w oj).to < 0 := by
  intro hh
  rw [gkW,gateW,kidW,if_pos hh] at gs5
  simp at gs5
 obtain ⟨s,hs⟩ : ∃ s : Nat,(followW w oj).to = s := ⟨(followW w oj).to.toNat,by omega⟩
 have hsl : s < w.ks.length := by omega
 have hks := gge hsl
 have hkj := gge hj
 have hnode : nodeW w.ks (followW w oj).to = w.ks[s].nd := by rw [hs,nodeW,kid_nat,hks]
 have hpd : ∀ r1 r2 r3 r4 : Box,_ := fun r1 r2 r3 r4 : Box => partW_ev (ls := w.ls) (hB.ex [r1,r2,r3,r4]).lt (hB.ex [r1,r2,r3,r4]).get (by_lt hw hol)
 have hpa : ∀ r1 r2 r3 r4 : Box,_ := fun r1 r2 r3 r4 : Box => partW_ev (ls := w.ls) (hB.ex [r1,r2,r3,r4]).lt (hB.ex [r1,r2,r3,r4]).get (by_lt hw hal)
 have hpb : ∀ r1 r2 r3 r4 : Box,_ := fun r1 r2 r3 r4 : Box => partW_ev (ls := w.ls) (hB.ex [r1,r2,r3,r4]).lt (hB.ex [r1,r2,r3,r4]).get (by_lt hw hbl)
 have hoj : ∀ r0 r1 r2 r3 r4 : Box,ev cfg (.call 84 [.ptr l 0,I j] (bx ++ [r0,r1,r2,r3,r4])) = Rq (.own true 1 ([dI oj] :: [])) := fun r0 r1 r2 r3 r4 => by
  have hE := hB.ex [r0,r1,r2,r3,r4]
  rw [outsW_ev hE.lt hE.get (by omega),hjo]; rfl
 have hrs := cBs_get hks
 have hrj := cBs_get hkj
 rw [hnode]
 have key : ∀ (lv : Int) (g : Wz) (p q : Nat),q < w.ls.length -> g = followW w q -> p < w.ls.length -> ∀ (r0 r1 r2 r3 r4 : Box),ev cfg (.call 93 [.ptr l 0,.dat (.sl 1 (iR ([(followW w oj).to] ++ [(followW w oj).by_,g.by_].filter fun x => decide (0 <= x)))),.dat (.sl 1 [[dI oj],[dI (followW w oj).last],[dI q],[dI g.last]])] (bx.set l [.dat N,.dat F,.own true 5 ((cB.cBs w.ks).set j (cB (.mk 7 w.ks[s].nd lv [partW w (followW w oj),partW w g] []))),.own true 3 ((w.ls.map lnkD).set p [dI (j : Nat),dI (lkW w.ls p).2.1,dI (lkW w.ls p).2.2])] ++ [r0,r1,r2,r3,r4])) =
   some (.ret (.tup []) (some ⟨bx.set l (fbox N F (dropW ⟨w.ks.set j (.mk 7 w.ks[s].nd lv [partW w (followW w oj),partW w g] []),setFrom w.ls p j⟩ ([(followW w oj).to] ++ [(followW w oj).by_,g.by_].filter fun x => decide (0 <= x)) [oj,(followW w oj).last,q,g.last])) ++ [r0,r1,r2,r3,r4],l,false⟩)) := by
  intro lv g p q hql hg hpl r0 r1 r2 r3 r4
  generalize hP : Blk.mk 7 w.ks[s].nd lv [partW w (followW w oj),partW w g] [] = P
  have hFB2 : FB (bx.set l [.dat N,.dat F,.own true 5 (cB.cBs (w.ks.set j P)),.own true 3 ((setFrom w.ls p j).map lnkD)]) l N F ⟨w.ks.set j P,setFrom w.ls p j⟩ := FB.set (w := w) (w' := ⟨w.ks.set j P,setFrom w.ls p j⟩) hB
  have hE := hFB2.ex [r0,r1,r2,r3,r4]
  have hfl : ([(followW w oj).by_,g.by_].filter fun x => decide (0 <= x)).length <= 2 := List.length_filter_le _ _
  have h := dropW_ev (w := ⟨w.ks.set j P,setFrom w.ls p j⟩) (gone := [(followW w oj).to] ++ [(followW w oj).by_,g.by_].filter fun x => decide (0 <= x)) (cut := [oj,(followW w oj).last,q,g.last]) (X := .sl 1 (iR ([(followW w oj).to] ++ [(followW w oj).by_,g.by_].filter fun x => decide (0 <= x)))) (Z := .sl 1 [[dI oj],[dI (followW w oj).last],[dI q],[dI g.last]]) (by simp only [lls,setFrom_len]; omega) (by
   simp only [lls]
   refine setFrom_rng (fun l hl => ⟨(hw.rng l hl).1,(hw.rng l hl).2.1⟩) fun hk => ⟨?_,(hw.rng _ (mog (lk_of hk))).2.1⟩
   constructor
   ·show (-1 : Int) <= (j : Int); omega
   ·show (j : Int) < _; omega) hE.lt hE.get ⟨1,rfl,by simp,rfl⟩ ⟨1,rfl,by simp,rfl⟩ (by rw [List.length_append]; simp; omega)
  rw [setFrom_map,<- cBs_set] at h
  rw [h,set_app (by simpa using hB.lt),List.set_set]
 have hform : ∀ (lv : Int) (g : Wz),cB (.mk 7 w.ks[s].nd lv [partW w (followW w oj),partW w g] []) = [dI 7,dI w.ks[s].nd,dI lv,.sl 5 [cB (partW w (followW w oj)),cB (partW w g)],.nil] := fun _ _ => rfl
 have hnd : ∀ b : Blk,∃ k a K L,cB b = [dI k,dI b.nd,dI a,K,L] := by
  intro b; obtain ⟨k,nn,a,ks,ls⟩ := b; exact ⟨k,a,_,_,rfl⟩
 have hpm : ∀ y,partW ⟨w.ks,w.ls⟩ y = partW w y := fun _ => rfl
 simp only [hpm] at hpd hpa hpb
 simp only [hform] at key
 obtain ⟨k1,a1,K1,L1,e1⟩ := hnd w.ks[s]
 obtain ⟨k2,a2,K2,L2,e2⟩ := hnd w.ks[j]
 rw [e1] at hrs
 rw [e2] at hrj
 clear hform hnd e1 e2 hpm
 rw [hs] at h4 h5 h6' hpd key ⊢
 generalize followW w oj = d at *
 generalize partW w d = pd at *
 by_cases c6 : ((followW w ob).to == (j : Int)) = true
 ·rw [if_pos c6]
  have c7 : ((followW w oa).to == (j : Int)) = false := by
   cases h : ((followW w oa).to == (j : Int)) with
   | false => rfl
   | true => exact absurd (h.trans c6.symm) c5
  have hk := key 0 (followW w ob) oa ob hbl rfl hal
  have hin := fun z0 z1 z2 z3 z4 y0 y1 y2 y3 y4 => round_loop (os := [[dI oa],[dI ob]]) (cs := [[dI oj],[dI d.last],[dI ob],[dI (followW w ob).last]]) (s := (j : Int)) (lv := 0) (sj := (s : Int)) (d := d) (g := followW w ob) hB.lt z0 z1 z2 z3 z4 y0 y1 y2 y3 y4
  generalize followW w ob = g at *
  generalize hpg : partW w g = pg at *
  obtain ⟨qk,qn,qa,qks,qls⟩ := pd
  obtain ⟨rk,rn,ra,rks,rls⟩ := pg
  obtain ⟨dto,dby,dla⟩ := d
  simp only at hs
  subst hs
  exact fround_go0 (dby := dby) (dla := (dla : Nat)) hB.lt hB.get hlt hmax h1 h2 n2 h3 h4 h5 h6' h7 h8 c7 c6 hrj hrs (mkD_one 5 _) (mkD_one 3 _) (mkD_one 5 _) (mkD_one 3 _) hpd hpb hoj hin (lnk_getk hal) hk
 ·rw [if_neg c6]
  rw [Bool.not_eq_true] at c6
  have c7 : ((followW w oa).to == (j : Int)) = true := by
   cases h : ((followW w oa).to == (j : Int)) with
   | true => rfl
   | false => exact absurd (h.trans c6.symm) c5
  have hk := key 1 (followW w oa) ob oa hal rfl hbl
  have hin := fun z0 z1 z2 z3 z4 y0 y1 y2 y3 y4 => round_loop (os := [[dI oa],[dI ob]]) (cs := [[dI oj],[dI d.last],[dI oa],[dI (followW w oa).last]]) (s := (j : Int)) (lv := 1) (sj := (s : Int)) (d := d) (g := followW w oa) hB.lt z0 z1 z2 z3 z4 y0 y1 y2 y3 y4
  generalize followW w oa = g at *
  generalize hpg : partW w g = pg at *
  obtain ⟨qk,qn,qa,qks,qls⟩ := pd
  obtain ⟨rk,rn,ra,rks,rls⟩ := pg
  obtain ⟨dto,dby,dla⟩ := d
  simp only at hs
  subst hs
  exact fround_go1 (dby := dby) (dla := (dla : Nat)) hB.lt hB.get hlt hmax h1 h2 n2 h3 h4 h5 h6' h7 h8 c7 c6 hrj hrs (mkD_one 5 _) (mkD_one 3 _) (mkD_one 5 _) (mkD_one 3 _) hpd hpa hoj hin (lnk_getk hbl) hk
end
section
variable {n : Nt} {w : Wb} {bx : List Box} {l : Nat} {N F : D}
theorem round_ev (hG : Gates n) (hN : IsN n N F) (hw : InvW n w) (hB : FB bx l N F w) :
  ev cfg (.call 64 [.ptr l 0] bx) = match firstAt (threeAt n w) 0 w.ks.length with
   | none => (Rq (B false))
   | some x => some (.ret (B true) (some ⟨bx.set l (fbox N F x),l,false⟩)) := by
 have hkl : (cB.cBs w.ks).length = w.ks.length := cBs_len _
 have loop : ∀ (m i : Nat),i + m = w.ks.length -> ev cfg (.loop 64 2 (q0 bx (sh64_2 (.ptr l 0) (I (cB.cBs w.ks).length) (I i)))) = match firstAt (threeAt n w) i m with
   | none => some (.loop (.exit 0) (q0 bx (se64_2 .dead)))
   | some x => some (.loop .ret ⟨(se64_2 (B true)),bx.set l (fbox N F x),bx.length,some l,false⟩) := by
  intro m
  induction m with
  | zero =>
   intro i hi
   exact es (fround_end hB.lt (by rw [hkl]; omega))
  | succ m ih =>
   intro i hi
   have h := round_at hG hN hw hB (j := i) (by omega)
   rw [firstAt]
   cases ho : threeAt n w i with
   | none =>
    rw [ho] at h
    have h2 := ih (i + 1) (by omega)
    rw [<- h] at h2
    simp only
    cases hf : firstAt (threeAt n w) (i + 1) m <;> (rw [hf] at h2; exact es h2)
   | some x =>
    rw [ho] at h
    exact es h
 have h := loop w.ks.length 0 (Nat.zero_add _)
 cases hf : firstAt (threeAt n w) 0 w.ks.length with
 | none => rw [hf] at h; exact es (fround_f hB.lt hB.get h)
 | some x => rw [hf] at h; exact es (fround_t hB.lt hB.get h)
theorem step_ev (hG : Gates n) (hN : IsN n N F) (hw : InvW n w) (hB : FB bx l N F w) :
  ev cfg (.call 28 [.ptr l 0] bx) = some (.ret (I (nextW n w).2) (if (nextW n w).2 = 0 then none else some ⟨bx.set l (fbox N F (nextW n w).1),l,false⟩)) := by
 have h1 := inRow_ev hw hB
 have h2 := closed_ev hG hN hw hB
 have h3 := round_ev hG hN hw hB
 unfold nextW
 cases f1 : firstAt (oneAt w) 0 w.ks.length with
 | some x => rw [f1] at h1; exact es (fstep_1 hB.lt h1)
 | none =>
  rw [f1] at h1
  simp only
  cases f2 : firstAt (twoAt n w) 0 w.ks.length with
  | some x => rw [f2] at h2; exact es (fstep_2 hB.lt h1 h2)
  | none =>
   rw [f2] at h2
   simp only
   cases f3 : firstAt (threeAt n w) 0 w.ks.length with
   | some x => rw [f3] at h3; exact es (fstep_3 hB.lt h1 h2 h3)
   | none => rw [f3] at h3; exact es (fstep_0 hB.lt h1 h2 h3)
end
theorem first_some {f : Nat -> Option Wb} {p : Wb -> Prop} : ∀ {m i : Nat} {x : Wb},(∀ j,i <= j -> j < i + m -> ∀ y,f j = some y -> p y) -> firstAt f i m = some x -> p x
 | 0,i,x,_,h => by cases h
 | m + 1,i,x,hp,h => by
  rw [firstAt] at h
  cases hf : f i with
  | some y =>
   rw [hf] at h
   obtain rfl := sij h
   exact hp i (Nat.le_refl _) (by omega) _ hf
  | none =>
   rw [hf] at h
   exact first_some (fun j h1 h2 => hp j (by omega) (by omega)) h
theorem next_inv {n : Nt} {w : Wb} (hG : Gates n) (h : InvW n w) : InvW n (nextW n w).1 /\ ((nextW n w).2 ≠ 0 -> (nextW n w).1.ls.length < w.ls.length) /\ ((nextW n w).2 = 0 -> (nextW n w).1 = w) /\ (0 <= (nextW n w).2 /\ (nextW n w).2 <= 3) /\ (w.ks ≠ [] -> (nextW n w).1.ks ≠ []) := by
 unfold nextW
 cases f1 : firstAt (oneAt w) 0 w.ks.length with
 | some x =>
  have := first_some (p := fun x => InvW n x /\ x.ls.length < w.ls.length /\ x.ks ≠ []) (fun j _ hj y hy => one_inv h (by omega) hy) f1
  exact ⟨this.1,fun _ => this.2.1,fun e => absurd (show (1 : Int) = 0 from e) (by decide),show (0 : Int) <= 1 /\ (1 : Int) <= 3 by decide,fun _ => this.2.2⟩
 | none =>
  simp only
  cases f2 : firstAt (twoAt n w) 0 w.ks.length with
  | some x =>
   have := first_some (p := fun x => InvW n x /\ x.ls.length < w.ls.length /\ x.ks ≠ []) (fun j _ hj y hy => two_inv hG h (by omega) hy) f2
   exact ⟨this.1,fun _ => this.2.1,fun e => absurd (show (2 : Int) = 0 from e) (by decide),show (0 : Int) <= 2 /\ (2 : Int) <= 3 by decide,fun _ => this.2.2⟩
  | none =>
   simp only
   cases f3 : firstAt (threeAt n w) 0 w.ks.length with
   | some x =>
    have := first_some (p := fun x => InvW n x /\ x.ls.length < w.ls.length /\ x.ks ≠ []) (fun j _ hj y hy => three_inv hG h (by omega) hy) f3
    exact ⟨this.1,fun _ => this.2.1,fun e => absurd (show (3 : Int) = 0 from e) (by decide),show (0 : Int) <= 3 /\ (3 : Int) <= 3 by decide,fun _ => this.2.2⟩
   | none => exact ⟨h,fun e => absurd rfl e,fun _ => rfl,show (0 : Int) <= 0 /\ (0 : Int) <= 3 by decide,fun h => h⟩
def foldsW (n : Nt) : Nat -> Wb -> Wb
 | 0,w => w
 | k + 1,w => foldsW n k (nextW n w).1
theorem folds_inv {n : Nt} (hG : Gates n) : ∀ (k : Nat) {w : Wb},InvW n w -> InvW n (foldsW n k w)
 | 0,_,h => h
 | k + 1,w,h => folds_inv hG k (next_inv hG h).1
theorem folds_stop {n : Nt} {w : Wb} (h : (nextW n w).2 = 0) (h1 : (nextW n w).1 = w) : ∀ k,foldsW n k w = w
 | 0 => rfl
 | k + 1 => by rw [foldsW,h1]; exact folds_stop h h1 k
theorem folds_end {n : Nt} (hG : Gates n) : ∀ (k : Nat) {w : Wb},InvW n w -> w.ls.length <= k -> (nextW n (foldsW n k w)).2 = 0
 | 0,w,h,hl => by
  rcases Int.lt_or_eq_of_le (next_inv hG h).2.2.2.1.1 with h0 | h0
  ·have := (next_inv hG h).2.1 (by omega); omega
  ·exact h0.symm
 | k + 1,w,h,hl => by
  rw [foldsW]
  by_cases h0 : (nextW n w).2 = 0
  ·have h1 := (next_inv hG h).2.2.1 h0
   rw [h1,folds_stop h0 h1]; exact h0
  ·have := (next_inv hG h).2.1 h0
   exact folds_end hG k (next_inv hG h).1 (by omega)
theorem folds_ne {n : Nt} (hG : Gates n) : ∀ (k : Nat) {w : Wb},InvW n w -> w.ks ≠ [] -> (foldsW n k w).ks ≠ []
 | 0,_,_,h => h
 | k + 1,w,h,hk => folds_ne hG k (next_inv hG h).1 ((next_inv hG h).2.2.2.2 hk)
theorem web_ls {n : Nt} {w : Wb} (h : InvW n w) (hG : Gates n) (hk : w.ks ≠ []) : w.ls ≠ [] := by
 intro e
 obtain ⟨b,bs,hb⟩ := List.exists_cons_of_ne_nil hk
 have h0 : w.ks[0]? = some b := by rw [hb]; rfl
 have hk := h.kid 0 b h0
 have hz : (insW w.ls (0 : Nat)).length = 0 /\ (outsW w.ls (0 : Nat)).length = 0 := by rw [e]; exact ⟨rfl,rfl⟩
 rw [hz.1,hz.2] at hk
 by_cases h8 : b.kd = 8
 ·obtain ⟨g1,g2,g3,g4⟩ := hk.gate h8
  have := hG.2 b.nd g1.1 g1.2 g2
  omega
 ·have := hk.one h8
  omega
theorem fold_loop {n : Nt} {bx : List Box} {N F : D} {z0 z1 z2 z3 z4 : Box} (hG : Gates n) (hN : IsN n N F) (o1 : Oq N) (o2 : Oq F) (y0 : z0.all (cellLt (bx.length + 6)) = true) (y1 : z1.all (cellLt (bx.length + 6)) = true) (y2 : z2.all (cellLt (bx.length + 6)) = true) (y3 : z3.all (cellLt (bx.length + 6)) = true) (y4 : z4.all (cellLt (bx.length + 6)) = true) :
  ∀ (k : Nat) (w : Wb),InvW n w -> w.ks ≠ [] -> w.ls.length <= k →
   ev cfg (.loop 9 5 (qs bx (sh9_5 (P1 bx) (P5 bx)) [z0,z1,z2,z3,z4,fbox N F w])) =
    some (.loop (.exit 0) (qs bx (se9_5 (P1 bx) (P5 bx)) [z0,z1,z2,z3,z4,fbox N F (foldsW n k w)])) := by
 have yf : ∀ w : Wb,(fbox N F w).all (cellLt (bx.length + 6)) = true := fun w => by
  rw [fbox]
  cases cB.cBs w.ks <;> cases w.ls.map lnkD <;> rfl
 have hfb : ∀ w : Wb,InvW n w -> w.ks ≠ [] -> FB (bx ++ [z0,z1,z2,z3,z4,fbox N F w]) (bx.length + 5) N F w := fun w hw hk => by
  refine ⟨by simp,?_,o1,o2⟩
  rw [gar (by omega),show bx.length + 5 - bx.length = 5 by omega]
  show some (fbox N F w) = _
  rw [fbox_ne hk (web_ls hw hG hk)]
 have hset : ∀ w w' : Wb,(bx ++ [z0,z1,z2,z3,z4,fbox N F w]).set (bx.length + 5) (fbox N F w') = bx ++ [z0,z1,z2,z3,z4,fbox N F w'] := fun w w' => by
  rw [List.set_append_right _ _ (by omega),show bx.length + 5 - bx.length = 5 by omega]; rfl
 intro k
 induction k with
 | zero =>
  intro w hw hk hl
  have h0 := folds_end hG 0 hw hl
  have hs := step_ev hG hN hw (hfb w hw hk)
  rw [show (nextW n w).2 = 0 from h0,if_pos rfl] at hs
  exact es (fFold_stop y0 y1 y2 y3 y4 (yf w) hs)
 | succ k ih =>
  intro w hw hk hl
  have hs := step_ev hG hN hw (hfb w hw hk)
  by_cases h0 : (nextW n w).2 = 0
  ·have h1 := (next_inv hG hw).2.2.1 h0
   rw [h0,if_pos rfl] at hs
   rw [folds_stop h0 h1]
   exact es (fFold_stop y0 y1 y2 y3 y4 (yf w) hs)
  ·rw [if_neg h0,hset] at hs
   have hn := next_inv hG hw
   have hlt := hn.2.1 h0
   exact es ((fFold_go y0 y1 y2 y3 y4 (yf w) (yf _) hs (by simpa using h0)).trans (ih _ hn.1 (hn.2.2.2.2 hk) (by omega)))
theorem web_ev {n : Nt} {w : Wb} {bx : List Box} {l : Nat} {N F : D} (hw : InvW n w) (hG : Gates n) (hk : w.ks ≠ []) (hB : FB bx l N F w) :
  ∃ c : Box,ev cfg (.call 30 [.ptr l 0] bx) = some (.ret (Wq 9 0 0 (mkD 5 (cB.cBs w.ks)) (mkD 3 (w.ls.map lnkD))) (some ⟨bx.set l c,l,false⟩)) := by
 have hls := web_ls hw hG hk
 obtain ⟨b,bs,hb⟩ := List.exists_cons_of_ne_nil hk
 obtain ⟨x,xs,hx⟩ := List.exists_cons_of_ne_nil hls
 have hget := hB.get
 rw [hb,hx] at hget
 refine ⟨[.dat N,.dat F,.own false 5 (cB.cBs (b :: bs)),.own false 3 ((x :: xs).map lnkD)],?_⟩
 rw [hb,hx]
 exact es (fweb_f hB.lt hget)
theorem rlnk_loop : ∀ (ls : List (Int × Int × Int)) {lr acc : List (List D)} {L : D} {i : Nat} {bx : List Box} {c z : Box} {k0 n0 a0 : Int} {Y : PV},IsS 3 lr L -> lr.drop i = ls.map lnkD -> lr.length < 9223372036854775808 -> c.all (cellLt (bx.length + 3)) = true -> z.all (cellLt (bx.length + 3)) = true -> cellLt (bx.length + 3) Y = true -> acc.length + ls.length <= 1000 →
  ev cfg (.loop 13 8 (qs bx (sh13_8 (P1 bx) (P2 bx) (.dat L) (I lr.length) (I i)) [c,z,[I k0,I n0,I a0,Y,mkS 3 acc]])) =
   some (.loop (.exit 2) (qs bx (se13_8 (P1 bx) (P2 bx)) [c,z,[I k0,I n0,I a0,Y,mkS 3 (acc ++ ls.map lnkD)]]))
 | [],lr,acc,L,i,bx,c,z,k0,n0,a0,Y,hL,hr,hmax,hc,hz,hy,hs => by
  rw [List.map_nil,List.append_nil]
  exact es (e12b hc hz hy (by cases acc <;> rfl) (drop_nil hr))
 | x :: ls,lr,acc,L,i,bx,c,z,k0,n0,a0,Y,hL,hr,hmax,hc,hz,hy,hs => by
  rw [List.map_cons] at hr
  obtain ⟨hget,hr',hlt⟩ := drop_cons hr
  rw [List.length_cons] at hs
  have ih := rlnk_loop ls (acc := acc ++ [lnkD x]) (i := i + 1) (bx := bx) (c := c) (z := z) (k0 := k0) (n0 := n0) (a0 := a0) (Y := Y) hL hr' hmax hc hz hy (by simp; omega)
  rw [List.append_assoc,List.singleton_append,<- List.map_cons] at ih
  rw [mkS_snoc] at ih
  cases acc with
  | nil => exact es ((r12bn (f := x.1) (t := x.2.1) (w := x.2.2) hL hc hz hy hget hlt hmax).trans ih)
  | cons y acc => exact es ((r12b (f := x.1) (t := x.2.1) (w := x.2.2) (ls := y :: acc) hL hc hz hy hget hlt hmax (by simp at hs ⊢; omega)).trans ih)
theorem ref_ev : ∀ (b : Blk) {k n a : Int} {K L : D},IsB b k n a K L -> okB b -> ∃ M N,IsB b k n a M N /\ Cq 13 [Wq k n a K L] (Wq k n a M N)
 | .mk _ _ _ ks ls,k,n,a,K,L,h,hok => by
  rw [IsB] at h
  obtain ⟨rfl,rfl,rfl,ik,hn,ha,rows,hK,hks,hmax,hL,hlm,hx⟩ := h
  rw [okB] at hok
  obtain ⟨o1,o2,o3⟩ := hok
  obtain ⟨rows',hr',hloop⟩ := loop ks (i := 0) hK rfl hks (by rw [isBs_len hks]; exact hmax) o3
  refine ⟨mkD 5 rows',mkD 3 (ls.map lnkD),?_,fun bx => ?_⟩
  ·rw [IsB]
   exact ⟨rfl,rfl,rfl,ik,hn,ha,rows',mkD_is _ _,hr',hmax,mkD_is _ _,hlm,hx⟩
  ·exact es (f12 (ks := rows') (ls := ls.map lnkD) hK hL (fun c z hc hz => hloop [] bx c z k n a (by simp; omega) hc hz) fun c z hc hz => rlnk_loop ls (acc := []) (i := 0) hL rfl (by simpa using hlm) hc hz (by cases rows' <;> rfl) (by simp; omega))
where
 loop : ∀ (bs : List Blk) {rows rs : List (List D)} {K : D} {i : Nat},IsS 5 rows K -> rows.drop i = rs -> IsB.IsBs bs rs -> rows.length < 9223372036854775808 -> okB.go bs -> ∃ rows',IsB.IsBs bs rows' /\ ∀ (acc : List (List D)) (bx : List Box) (c z : Box) (k0 n0 a0 : Int),acc.length + bs.length <= 1000 -> c.all (cellLt (bx.length + 3)) = true -> z.all (cellLt (bx.length + 3)) = true →
  ev cfg (.loop 13 3 (qs bx (sh13_3 (P0 bx) (P1 bx) (P2 bx) (.dat K) (I rows.length) (I i)) [c,z,[I k0,I n0,I a0,mkS 5 acc,.dat .nil]])) =
   some (.loop (.exit 0) (qs bx (se13_3 (P0 bx) (P1 bx) (P2 bx)) [c,z,[I k0,I n0,I a0,mkS 5 (acc ++ rows'),.dat .nil]]))
 | [],rows,rs,K,i,hK,hr,hbs,hmax,hok => by
  rw [IsB.IsBs] at hbs
  subst hbs
  refine ⟨[],by rw [IsB.IsBs],fun acc bx c z k0 n0 a0 hs hc hz => ?_⟩
  rw [List.append_nil]
  exact es (e12 hc hz (by cases acc <;> rfl) (drop_nil hr))
 | b :: bs,rows,rs,K,i,hK,hr,hbs,hmax,hok => by
  rw [IsB.IsBs] at hbs
  obtain ⟨k,n,a,K',L',rest,rfl,hB,hrest⟩ := hbs
  obtain ⟨hget,hr',hlt⟩ := drop_cons hr
  rw [okB.go] at hok
  obtain ⟨M,N,q1,q2⟩ := ref_ev b hB hok.1
  obtain ⟨rows',p1,p2⟩ := loop bs (i := i + 1) hK hr' hrest hmax hok.2
  refine ⟨[dI k,dI n,dI a,M,N] :: rows',?_,fun acc bx c z k0 n0 a0 hs hc hz => ?_⟩
  ·rw [IsB.IsBs]; exact ⟨k,n,a,M,N,rows',rfl,q1,p1⟩
  ·rw [List.length_cons] at hs
   have ih := p2 (acc ++ [[dI k,dI n,dI a,M,N]]) bx c z k0 n0 a0 (by simp; omega) hc hz
   rw [List.append_assoc,List.singleton_append,mkS_snoc] at ih
   cases acc with
   | nil => exact es ((r12n hK hc hz hget hlt hmax (isB_one hB).1 (isB_one hB).2 (isB_one q1).1 (isB_one q1).2 q2).trans ih)
   | cons y acc => exact es ((r12 (ks := y :: acc) hK hc hz hget hlt hmax (isB_one hB).1 (isB_one hB).2 (isB_one q1).1 (isB_one q1).2 (by simp at hs ⊢; omega) q2).trans ih)
def isEnd (x : Nd) : Bool := x.k == 1 || x.k == 2
def goneN (n : Nt) (i : Nat) : Bool := match n.nodes[i]? with
 | some x => isEnd x
 | none => false
def beginB (i : Nat) (x : Nd) : Blk := .mk (if x.k = 5 ∨ x.k = 6 ∨ x.k = 7 then 8 else 2) i 0 [] []
def allB : Nat -> List Nd -> List Blk
 | _,[] => []
 | i,x :: xs => beginB i x :: allB (i + 1) xs
def placeN (n : Nt) (p : Nat) : Int := if goneN n p = true then -1 else rank (goneN n) p
def beginL (n : Nt) : Nat -> List Fl -> List Lk
 | _,[] => []
 | i,f :: fs => (placeN n f.fr.toNat,placeN n f.to.toNat,(i : Int)) :: beginL n (i + 1) fs
def beginW (n : Nt) : Wb := ⟨dropK (goneN n) 0 (allB 0 n.nodes),beginL n 0 n.flows⟩
theorem allB_get : ∀ {xs : List Nd} {i j : Nat} {b : Blk},(allB i xs)[j]? = some b -> ∃ x,xs[j]? = some x /\ b = beginB (i + j) x
 | [],i,j,b,h => by simp [allB] at h
 | x :: xs,i,0,b,h => by
  simp [allB] at h
  exact ⟨x,rfl,h.symm⟩
 | x :: xs,i,j + 1,b,h => by
  rw [allB,List.getElem?_cons_succ] at h
  obtain ⟨y,h1,h2⟩ := allB_get h
  exact ⟨y,by simpa using h1,by rw [h2,show i + (j + 1) = i + 1 + j by omega]⟩
theorem allB_len : ∀ {xs : List Nd} {i : Nat},(allB i xs).length = xs.length
 | [],i => rfl
 | x :: xs,i => by rw [allB,List.length_cons,List.length_cons,allB_len]
theorem allB_size : ∀ {xs : List Nd} {i : Nat},sizeW (allB i xs) = xs.length
 | [],i => rfl
 | x :: xs,i => by
  have := allB_size (xs := xs) (i := i + 1)
  rw [allB,sizeW,szB.szBs,List.length_cons]
  rw [sizeW] at this
  rw [this,beginB,szB,szB.szBs]
  omega
theorem beginL_len (n : Nt) : ∀ {fs : List Fl} {i : Nat},(beginL n i fs).length = fs.length
 | [],i => rfl
 | f :: fs,i => by rw [beginL,List.length_cons,List.length_cons,beginL_len n]
theorem beginL_mem (n : Nt) : ∀ {fs : List Fl} {i : Nat} {l : Lk},l ∈ beginL n i fs -> ∃ k f,fs[k]? = some f /\ l = (placeN n f.fr.toNat,placeN n f.to.toNat,((i + k : Nat) : Int))
 | [],i,l,h => by simp [beginL] at h
 | f :: fs,i,l,h => by
  rw [beginL] at h
  rcases List.mem_cons.1 h with rfl | h
  ·exact ⟨0,f,rfl,rfl⟩
  ·obtain ⟨k,g,h1,h2⟩ := beginL_mem n h
   exact ⟨k + 1,g,by simpa using h1,by rw [h2,show i + 1 + k = i + (k + 1) by omega]⟩
theorem idxs_begin (n : Nt) {p' : Lk -> Bool} {p : Fl -> Bool} : ∀ {fs : List Fl} {i c : Nat},(∀ f ∈ fs,∀ k : Nat,p' (placeN n f.fr.toNat,placeN n f.to.toNat,(k : Int)) = p f) -> idxs p' c (beginL n i fs) = idxs p c fs
 | [],i,c,_ => rfl
 | f :: fs,i,c,h => by
  rw [beginL,idxs,idxs,h f mcs i,idxs_begin n fun g hg => h g (mcm _ hg)]
theorem place_eq {n : Nt} {x : Int} {p : Nat} (hx : 0 <= x) (hp : goneN n p = false) : (placeN n x.toNat == ((rank (goneN n) p : Nat) : Int)) = (x == (p : Int)) := by
 rw [placeN]
 split
 ·rename_i hg
  have e1 : ((-1 : Int) == ((rank (goneN n) p : Nat) : Int)) = false := beq_eq_false_iff_ne.2 (by omega)
  have e2 : (x == (p : Int)) = false := beq_eq_false_iff_ne.2 fun e => by
   have : x.toNat = p := by omega
   rw [this,hp] at hg; cases hg
  rw [e1,e2]
 ·rename_i hg
  rw [Bool.not_eq_true] at hg
  by_cases e : x = p
  ·have : x.toNat = p := by omega
   rw [this,e]; simp
  ·have e1 : (((rank (goneN n) x.toNat : Nat) : Int) == ((rank (goneN n) p : Nat) : Int)) = false := beq_eq_false_iff_ne.2 fun h => e (by have := rank_inj hg hp (by omega); omega)
   rw [e1,beq_eq_false_iff_ne.2 e]
theorem place_rng {n : Nt} {x : Int} (hx : 0 <= x /\ x < n.nodes.length) : -1 <= placeN n x.toNat /\ placeN n x.toNat < (beginW n).ks.length := by
 rw [placeN]
 split
 ·omega
 ·rename_i hg
  rw [Bool.not_eq_true] at hg
  have := rank_lt (bs := allB 0 n.nodes) (gone := goneN n) (x := x.toNat) (by rw [allB_len]; omega) hg
  exact ⟨by omega,by show _ < ((dropK (goneN n) 0 (allB 0 n.nodes)).length : Int); omega⟩
theorem ok_linked {n : Nt} (h : OkN n) {i : Nat} (hi : i < n.nodes.length) : linkedN n i = true := by
 have := h.2.2.2.2.1 i hi
 rw [thirdW] at this
 simp only [Bool.or_eq_false_iff,Bool.not_eq_eq_eq_not,Bool.not_false] at this
 exact this.1
theorem ok_gates {n : Nt} (h : OkN n) : Gates n := by
 refine ⟨h.1,fun v h0 h1 hk => ?_⟩
 obtain ⟨i,rfl⟩ : ∃ i : Nat,v = i := ⟨v.toNat,by omega⟩
 have hl := ok_linked h (i := i) (by omega)
 unfold linkedN at hl
 simp only at hl
 rcases hk with hk | hk | hk <;> rw [hk] at hl
 ·rw [if_neg (by decide),if_neg (by decide),if_neg (by decide),if_pos rfl] at hl
  simp only [Bool.or_eq_true,Bool.and_eq_true,beq_iff_eq,dqE] at hl
  rcases hl with hl | hl
  ·exact .inl ⟨hl.1.1,hl.1.2⟩
  ·exact .inr ⟨hl.1,hl.2,by rw [hk]; decide⟩
 ·rw [if_neg (by decide),if_neg (by decide),if_neg (by decide),if_neg (by decide),if_pos rfl] at hl
  simp only [Bool.or_eq_true,Bool.and_eq_true,beq_iff_eq,dqE] at hl
  rcases hl with hl | hl
  ·exact .inl hl
  ·exact .inr ⟨hl.1,hl.2,by rw [hk]; decide⟩
 ·rw [if_neg (by decide),if_neg (by decide),if_pos rfl] at hl
  simp only [Bool.and_eq_true,beq_iff_eq,dqE] at hl
  exact .inl ⟨hl.1,hl.2.1⟩
theorem ok_ends {n : Nt} (h : OkN n) : Ends n := leads_ends h.2.2.2.1
theorem right_kind {x : Nd} (h : rightN ofT x = true) : 1 <= x.k /\ x.k <= 8 := by
 rw [rightN] at h
 split at h
 ·omega
 ·simp only [Bool.and_eq_true,dqE] at h
  exact h.1
theorem begin_inv {n : Nt} (h : OkN n) : InvW n (beginW n) := by
 have hE := ok_ends h
 refine ⟨fun l hl => ?_,fun i b hb => ?_,?_,?_⟩
 ·obtain ⟨k,f,h1,rfl⟩ := beginL_mem n hl
  have hf := hE f (mog h1)
  have hk : k < n.flows.length := (gsi.1 h1).1
  exact ⟨place_rng hf.1,place_rng hf.2,by show (0 : Int) <= ((0 + k : Nat) : Int); omega,by show ((0 + k : Nat) : Int) < _; omega⟩
 ·obtain ⟨x,_,h2,h3,h4⟩ := dropK_get hb
  rw [Nat.sub_zero] at h2
  obtain ⟨nd,h5,rfl⟩ := allB_get h2
  rw [Nat.zero_add]
  have e0 : rank (goneN n) 0 = 0 := rfl
  rw [e0,Nat.zero_add] at h4
  subst h4
  have hxl : x < n.nodes.length := (gsi.1 h5).1
  have c1 : insW (beginW n).ls (rank (goneN n) x : Nat) = insN n x := idxs_begin n fun f hf k => place_eq (hE f hf).2.1 h3
  have c2 : outsW (beginW n).ls (rank (goneN n) x : Nat) = outsN n x := idxs_begin n fun f hf k => place_eq (hE f hf).1.1 h3
  rw [c1,c2]
  have hkd : kindN n x = nd.k := by
   rw [kind_at hxl]
   rw [gge hxl] at h5
   rw [sij h5]
  have hne : nd.k ≠ 1 /\ nd.k ≠ 2 := by
   rw [goneN,h5] at h3
   simpa [isEnd] using h3
  have hrk := right_kind (h.2.2.1 nd (mog h5))
  have hn24 := h.1
  by_cases hg : nd.k = 5 ∨ nd.k = 6 ∨ nd.k = 7
  ·have eB : beginB x nd = .mk 8 x 0 [] [] := by rw [beginB,if_pos hg]
   rw [eB]
   refine ⟨by rw [okK,okK.okKs]; simp; omega,by simp [Blk.kd],fun _ => ⟨⟨by show (0 : Int) <= (x : Int); omega,by show (x : Int) < _; omega⟩,by show kindN n x = 5 ∨ kindN n x = 6 ∨ kindN n x = 7; rw [hkd]; exact hg,rfl,rfl⟩,fun h8 => absurd rfl h8,fun h3 => by simp [Blk.kd] at h3⟩
  ·have eB : beginB x nd = .mk 2 x 0 [] [] := by rw [beginB,if_neg hg]
   rw [eB]
   have hl := ok_linked h hxl
   unfold linkedN at hl
   simp only [hkd] at hl
   rw [if_neg hne.1,if_neg hne.2,if_neg (by omega),if_neg (by omega),if_neg (by omega)] at hl
   simp only [Bool.and_eq_true,beq_iff_eq] at hl
   exact ⟨by rw [okK,okK.okKs]; simp; omega,by simp [Blk.kd],fun h8 => by simp [Blk.kd] at h8,fun _ => hl,fun h3 => by simp [Blk.kd] at h3⟩
 ·have h1 := dropK_size (gone := goneN n) (bs := allB 0 n.nodes) (i := 0)
  rw [allB_size] at h1
  have h2 := beginL_len n (fs := n.flows) (i := 0)
  have := h.1
  have := h.2.1
  show sizeW (dropK (goneN n) 0 (allB 0 n.nodes)) + (beginL n 0 n.flows).length <= 64
  omega
 ·have h1 := dropK_le (gone := goneN n) (bs := allB 0 n.nodes) (i := 0)
  rw [allB_len] at h1
  have h2 := beginL_len n (fs := n.flows) (i := 0)
  have := h.1
  have := h.2.1
  exact ⟨by show (dropK (goneN n) 0 (allB 0 n.nodes)).length <= 24; omega,by show (beginL n 0 n.flows).length <= 40; omega⟩
def prB (n : Nt) (i m : Nat) : List (List D) := (List.range i).map (fun j => [dI (placeN n j)]) ++ List.replicate m [dI 0]
theorem prB_get {n : Nt} {i m : Nat} : (prB n i (m + 1))[i]? = some [dI 0] := by
 rw [prB,gar (by simp)]
 simp
theorem prB_set {n : Nt} {i m : Nat} : (prB n i (m + 1)).set i [dI (placeN n i)] = prB n (i + 1) m := by
 rw [prB,prB,List.range_succ,List.map_append,List.replicate_succ,List.set_append_right _ _ (by simp)]
 simp
theorem prB_end {n : Nt} {i j : Nat} (h : j < i) : (prB n i 0)[j]? = some [dI (placeN n j)] := by
 rw [prB,List.replicate_zero,List.append_nil,List.getElem?_map,List.getElem?_range h]; rfl
def pW (w : Wb) : PV := Wq 9 0 0 (mkD 5 (cB.cBs w.ks)) (mkD 3 (w.ls.map lnkD))
section
variable {n : Nt} {N F : D}
theorem begin_ev (h : IsN n N F) (hfl : n.flows.length <= 1000) (hnd : n.nodes.length <= 1000) (hz : ∀ t ∈ termsN n,sizeT t <= 1000000) (bx : List Box) :
  (OkN n -> ev cfg (.call 11 [Nq N F] bx) = Rq (.tup [pW (beginW n),I 0])) ∧
  (¬ OkN n -> ev cfg (.call 11 [Nq N F] bx) = Rq (.tup [Wq 0 0 0 .nil .nil,I 4])) := by
 obtain ⟨o1,o2⟩ := isN_one h
 obtain ⟨r,q,hr,hc⟩ := ncheck_ev h hfl hnd hz
 have h0 := h
 obtain ⟨nr,fr,hN,hnr,_,hF,hfr,_⟩ := h
 have hlen : nr.length = n.nodes.length := hnr.1
 have hflen : fr.length = n.flows.length := hfr.1
 refine ⟨fun hok => ?_,fun hno => ?_⟩
 case refine_2 =>
  have : r ≠ 0 := fun e => hno (hr.1 e)
  exact es (fbegin_err o1 o2 (fun r0 r1 => hc _) (by simpa using this))
 have hr0 : (r != 0) = false := by simpa using hr.2 hok
 have hE := ok_ends hok
 have loop1 : ∀ (xs : List Nd) (i m : Nat) (acc : List Blk),n.nodes.drop i = xs -> m = xs.length -> acc.length = rank (goneN n) i -> acc.length <= i →
   ev cfg (.loop 11 7 (qs bx (sh11_7 (P0 bx) (P1 bx) (P2 bx) (.own true 1 (prB n i m)) (.dat N) (I nr.length) (I i)) [Nb N F,E6,[I 9,I 0,I 0,mkS 5 (cB.cBs acc),.dat .nil]])) =
    some (.loop (.exit 0) (qs bx (se11_7 (P0 bx) (P1 bx) (P2 bx) (.own true 1 (prB n (i + m) 0))) [Nb N F,E6,[I 9,I 0,I 0,mkS 5 (cB.cBs (acc ++ dropK (goneN n) i (allB i xs))),.dat .nil]])) := by
  intro xs
  induction xs with
  | nil =>
   intro i m acc hd hm _ _
   have hm0 : m = 0 := hm
   subst hm0
   rw [allB,dropK,List.append_nil]
   exact es (fbegin_kend o1 o2 (by rw [hlen]; exact drop_nil hd))
  | cons x xs ih =>
   intro i m acc hd hm ha hai
   obtain ⟨hget,hd',hlt⟩ := drop_cons hd
   have hm1 : m = xs.length + 1 := hm
   subst hm1
   obtain ⟨row,hrow,_,_,op,mm,K,rfl,hT⟩ := hnr.2 i x hget
   have hlti : i < nr.length := by rw [hlen]; exact hlt
   have hmx : nr.length < 9223372036854775808 := by omega
   have hKT := isT_one hT
   have hge : goneN n i = isEnd x := by rw [goneN,hget]
   rw [show i + (xs.length + 1) = i + 1 + xs.length by omega,allB,dropK]
   by_cases hend : isEnd x = true
   ·rw [if_pos (by rw [hge]; exact hend)]
    have hpl : placeN n i = -1 := by rw [placeN,if_pos (by rw [hge]; exact hend)]
    have h2 := ih (i + 1) xs.length acc hd' rfl (by rw [rank_gone (by rw [hge]; exact hend)]; exact ha) (by omega)
    have hset := prB_set (n := n) (i := i) (m := xs.length)
    rw [hpl] at hset
    rw [isEnd,Bool.or_eq_true] at hend
    by_cases k1 : (x.k == 1) = true
    ·have hrr := fbegin_end1 (KP := cB.cBs acc) (bx := bx) hN o2 hrow hKT hlti hmx (prB_get (n := n) (m := xs.length)) k1
     rw [hset] at hrr
     exact es (hrr.trans h2)
    ·rw [Bool.not_eq_true] at k1
     have k2 : (x.k == 2) = true := by rcases hend with h | h; rw [k1] at h; cases h; exact h
     have hrr := fbegin_end2 (KP := cB.cBs acc) (bx := bx) hN o2 hrow hKT hlti hmx (prB_get (n := n) (m := xs.length)) k1 k2
     rw [hset] at hrr
     exact es (hrr.trans h2)
   ·have hgf : goneN n i = false := by rw [hge]; simpa using hend
    rw [if_neg (by rw [hgf]; exact fnt)]
    have hpl : placeN n i = (acc.length : Nat) := by rw [placeN,if_neg (by rw [hgf]; exact fnt),ha]
    have h2 := ih (i + 1) xs.length (acc ++ [beginB i x]) hd' rfl (by rw [rank_succ hgf,<- ha]; simp) (by simp; omega)
    rw [List.append_assoc] at h2
    have hset := prB_set (n := n) (i := i) (m := xs.length)
    rw [hpl] at hset
    have hks : ((cB.cBs acc).length + 1) * 72 <= 140737488355328 := by rw [cBs_len]; omega
    simp only [isEnd,Bool.or_eq_true,not_or,Bool.not_eq_true] at hend
    obtain ⟨k1,k2⟩ := hend
    have happ : mkS 5 (cB.cBs (acc ++ [beginB i x])) = .own true 5 (cB.cBs acc ++ [cB (beginB i x)]) := by rw [cBs_app]; exact mkS_app 5 _ _
    rw [happ] at h2
    have hset' : (prB n i (xs.length + 1)).set i [dI ((cB.cBs acc).length : Nat)] = prB n (i + 1) xs.length := by rw [cBs_len]; exact hset
    by_cases k5 : (x.k == 5) = true
    ·have eB : cB (beginB i x) = [dI 8,dI i,dI 0,.nil,.nil] := by rw [beginB,if_pos (.inl (by simpa using k5))]; rfl
     rw [eB] at h2
     cases acc with
     | nil =>
      have hrr := fbegin_g50 (bx := bx) hN o2 hrow hKT hlti hmx (prB_get (n := n) (m := xs.length)) k1 k2 k5
      rw [show [dI ((0 : Nat) : Int)] = [dI (([] : List Blk).length : Nat)] from rfl,hset] at hrr
      exact es (hrr.trans h2)
     | cons c acc =>
      have hrr := fbegin_g51 (bx := bx) (ks := cB.cBs (c :: acc)) hN o2 hrow hKT hlti hmx (prB_get (n := n) (m := xs.length)) k1 k2 k5 hks
      rw [hset'] at hrr
      exact es (hrr.trans h2)
    rw [Bool.not_eq_true] at k5
    by_cases k6 : (x.k == 6) = true
    ·have eB : cB (beginB i x) = [dI 8,dI i,dI 0,.nil,.nil] := by rw [beginB,if_pos (.inr (.inl (by simpa using k6)))]; rfl
     rw [eB] at h2
     cases acc with
     | nil =>
      have hrr := fbegin_g60 (bx := bx) hN o2 hrow hKT hlti hmx (prB_get (n := n) (m := xs.length)) k1 k2 k5 k6
      rw [show [dI ((0 : Nat) : Int)] = [dI (([] : List Blk).length : Nat)] from rfl,hset] at hrr
      exact es (hrr.trans h2)
     | cons c acc =>
      have hrr := fbegin_g61 (bx := bx) (ks := cB.cBs (c :: acc)) hN o2 hrow hKT hlti hmx (prB_get (n := n) (m := xs.length)) k1 k2 k5 k6 hks
      rw [hset'] at hrr
      exact es (hrr.trans h2)
    rw [Bool.not_eq_true] at k6
    by_cases k7 : (x.k == 7) = true
    ·have eB : cB (beginB i x) = [dI 8,dI i,dI 0,.nil,.nil] := by rw [beginB,if_pos (.inr (.inr (by simpa using k7)))]; rfl
     rw [eB] at h2
     cases acc with
     | nil =>
      have hrr := fbegin_g70 (bx := bx) hN o2 hrow hKT hlti hmx (prB_get (n := n) (m := xs.length)) k1 k2 k5 k6 k7
      rw [show [dI ((0 : Nat) : Int)] = [dI (([] : List Blk).length : Nat)] from rfl,hset] at hrr
      exact es (hrr.trans h2)
     | cons c acc =>
      have hrr := fbegin_g71 (bx := bx) (ks := cB.cBs (c :: acc)) hN o2 hrow hKT hlti hmx (prB_get (n := n) (m := xs.length)) k1 k2 k5 k6 k7 hks
      rw [hset'] at hrr
      exact es (hrr.trans h2)
    rw [Bool.not_eq_true] at k7
    have eB : cB (beginB i x) = [dI 2,dI i,dI 0,.nil,.nil] := by
     rw [beginB,if_neg (by simp at k5 k6 k7; omega)]; rfl
    rw [eB] at h2
    cases acc with
    | nil =>
     have hrr := fbegin_leaf0 (bx := bx) hN o2 hrow hKT hlti hmx (prB_get (n := n) (m := xs.length)) k1 k2 k5 k6 k7
     rw [show [dI ((0 : Nat) : Int)] = [dI (([] : List Blk).length : Nat)] from rfl,hset] at hrr
     exact es (hrr.trans h2)
    | cons c acc =>
     have hrr := fbegin_leaf1 (bx := bx) (ks := cB.cBs (c :: acc)) hN o2 hrow hKT hlti hmx (prB_get (n := n) (m := xs.length)) k1 k2 k5 k6 k7 hks
     rw [hset'] at hrr
     exact es (hrr.trans h2)
 have loop2 : ∀ (xs : List Fl) (i : Nat) (acc : List Lk),n.flows.drop i = xs -> acc.length <= i →
   ev cfg (.loop 11 22 (qs bx (sh11_22 (P1 bx) (P2 bx) (.own true 1 (prB n n.nodes.length 0)) (.dat F) (I fr.length) (I i)) [Nb N F,E6,[I 9,I 0,I 0,mkS 5 (cB.cBs (beginW n).ks),mkS 3 (acc.map lnkD)]])) =
    some (.loop (.exit 3) (qs bx (se11_22 (P1 bx) (P2 bx)) [Nb N F,E6,[I 9,I 0,I 0,mkS 5 (cB.cBs (beginW n).ks),mkS 3 ((acc ++ beginL n i xs).map lnkD)]])) := by
  intro xs
  induction xs with
  | nil =>
   intro i acc hd _
   rw [beginL,List.append_nil]
   exact es (fbegin_lend o1 o2 (by rw [hflen]; exact drop_nil hd))
  | cons f fs ih =>
   intro i acc hd ha
   obtain ⟨hget,hd',hlt⟩ := drop_cons hd
   obtain ⟨row,hrow,_,_,op,mm,K,rfl,hT⟩ := hfr.2 i f hget
   have hf := hE f (mog hget)
   have e1 : f.fr = ((f.fr.toNat : Nat) : Int) := by omega
   have e2 : f.to = ((f.to.toNat : Nat) : Int) := by omega
   rw [e1,e2] at hrow
   have hp := prB_end (n := n) (show f.fr.toNat < n.nodes.length by omega)
   have hq := prB_end (n := n) (show f.to.toNat < n.nodes.length by omega)
   have h2 := ih (i + 1) (acc ++ [(placeN n f.fr.toNat,placeN n f.to.toNat,(i : Int))]) hd' (by simp; omega)
   rw [List.append_assoc,List.map_append,List.map_append] at h2
   have hlti : i < fr.length := by rw [hflen]; exact hlt
   have hmx : fr.length < 9223372036854775808 := by omega
   rw [beginL,List.map_append]
   have hsn : mkS 3 (acc.map lnkD ++ [lnkD (placeN n f.fr.toNat,placeN n f.to.toNat,(i : Int))]) = .own true 3 (acc.map lnkD ++ [[dI (placeN n f.fr.toNat),dI (placeN n f.to.toNat),dI i]]) := mkS_app 3 _ _
   rw [show List.map lnkD [(placeN n f.fr.toNat,placeN n f.to.toNat,(i : Int))] = [lnkD (placeN n f.fr.toNat,placeN n f.to.toNat,(i : Int))] from rfl,hsn] at h2
   cases acc with
   | nil => exact es ((fbegin_l0 (bx := bx) (ks := cB.cBs (beginW n).ks) o1 hF hrow (isT_one hT) hlti hmx hp hq).trans h2)
   | cons c acc => exact es ((fbegin_l1 (bx := bx) (ks := cB.cBs (beginW n).ks) (ls := (c :: acc).map lnkD) o1 hF hrow (isT_one hT) hlti hmx hp hq (by rw [List.length_map]; omega)).trans h2)
 have h1 := loop1 n.nodes 0 n.nodes.length [] rfl rfl rfl (Nat.le_refl _)
 have h2 := loop2 n.flows 0 [] rfl (Nat.le_refl _)
 rw [Nat.zero_add,List.nil_append] at h1
 rw [List.nil_append] at h2
 refine es (fbegin_f (pr := prB n n.nodes.length 0) (ks := cB.cBs (beginW n).ks) (ls := (beginW n).ls.map lnkD) hN hF (fun r0 r1 => hc _) hr0 (by omega) ?_ h2)
 have e : prB n 0 n.nodes.length = List.replicate nr.length [dI 0] := by rw [prB,hlen]; rfl
 rw [e] at h1
 exact h1
end
def resW (w : Wb) : Blk := match w.ks with
 | [] => emptyB
 | [b] => if (!(b.kd == 8) && w.ls.length == 2) = true then b else .mk 9 0 0 w.ks w.ls
 | _ => .mk 9 0 0 w.ks w.ls
def foldN (n : Nt) : Blk := resW (foldsW n 100 (beginW n))
section
variable {n : Nt} {N F : D}
theorem nil_step {bx : List Box} {l : Nat} {Y : PV} (hl : l < bx.length) (hb : bx[l]? = some [.dat N,.dat F,.dat .nil,Y]) : ev cfg (.call 28 [.ptr l 0] bx) = Rq (I 0) :=
 es (fstep_0 hl (es (finrow_nil hl hb (es (finrow_end (m := 0) (i := 0) hl (Nat.le_refl _))))) (es (fclosed_nil hl hb (es (fclosed_end (m := 0) (i := 0) hl (Nat.le_refl _))))) (es (fround_nil hl hb (es (fround_end (m := 0) (i := 0) hl (Nat.le_refl _))))))
theorem next_nil {n : Nt} {w : Wb} (h : w.ks = []) : nextW n w = (w,0) := by
 unfold nextW; rw [h]; rfl
theorem folds_nil {n : Nt} {w : Wb} (h : w.ks = []) (k : Nat) : foldsW n k w = w := folds_stop (by rw [next_nil h]) (by rw [next_nil h]) k
theorem fold_ev (h : IsN n N F) (hfl : n.flows.length <= 1000) (hnd : n.nodes.length <= 1000) (hz : ∀ t ∈ termsN n,sizeT t <= 1000000) (bx : List Box) :
  (OkN n -> ev cfg (.call 9 [Nq N F] bx) = Rq (.tup [pB (foldN n),I 0])) ∧
  (¬ OkN n -> ev cfg (.call 9 [Nq N F] bx) = Rq (.tup [Wq 0 0 0 .nil .nil,I 4])) := by
 obtain ⟨o1,o2⟩ := isN_one h
 refine ⟨fun hok => ?_,fun hno => ?_⟩
 case refine_2 => exact es (fFold_err o1 o2 (fun r0 r1 => (begin_ev h hfl hnd hz _).2 hno) rfl)
 have hG := ok_gates hok
 have hw := begin_inv hok
 have hb : ∀ r0 r1 : Box,_ := fun r0 r1 : Box => (begin_ev h hfl hnd hz (bx ++ [r0,r1])).1 hok
 rw [foldN]
 generalize beginW n = w at *
 have hkl : (cB.cBs w.ks).length <= 1000 := by rw [cBs_len]; have := hw.lens; omega
 have hll : (w.ls.map lnkD).length <= 1000 := by rw [List.length_map]; have := hw.lens; omega
 have ho : ∀ r0 r1 r2 : Box,ev cfg (.call 27 [Nq N F,Wq 9 0 0 (mkD 5 (cB.cBs w.ks)) (mkD 3 (w.ls.map lnkD))] (bx ++ [r0,r1,r2])) =
   some (.ret (P5 bx) (some ⟨bx ++ [r0,r1,r2,Nb N F,Wx 9 0 0 (mkD 5 (cB.cBs w.ks)) (mkD 3 (w.ls.map lnkD)),fbox N F w],bx.length + 3,false⟩)) := fun r0 r1 r2 => by
  have e : (bx ++ [r0,r1,r2]).length = bx.length + 3 := by simp
  have h := es (fof_f (bx := bx ++ [r0,r1,r2]) (k := 9) (n := 0) (a := 0) o1 o2 (mkD_one 5 (cB.cBs w.ks)) (mkD_one 3 (w.ls.map lnkD)) (fun bx => clone5_ev hkl bx) fun bx => clone3_ev hll bx)
  have e2 : P2 (bx ++ [r0,r1,r2]) = P5 bx := congrArg (fun m => PV.ptr (m + 2) 0) e
  rw [e,e2,List.append_assoc] at h
  exact h
 have c1 := mkD_one 5 (cB.cBs w.ks)
 have c2 := mkD_one 3 (w.ls.map lnkD)
 by_cases hk : w.ks = []
 ·rw [folds_nil hk,resW,hk]
  have hfb : fbox N F w = [.dat N,.dat F,.dat .nil,mkS 3 (w.ls.map lnkD)] := by rw [fbox,hk]; rfl
  rw [hfb] at ho
  refine es (fFold_empty o1 o2 c1 c2 hb ho (es (fFold_stop rfl rfl rfl rfl rfl ?_ (nil_step (N := N) (F := F) (Y := mkS 3 (w.ls.map lnkD)) (by simp) ?_))))
  ·cases w.ls.map lnkD <;> rfl
  ·rw [gar (by omega),show bx.length + 5 - bx.length = 5 by omega]; rfl
 ·have hloop := fold_loop (bx := bx) (z0 := (Nb N F)) (z1 := E6) (z2 := (Wx 9 0 0 (mkD 5 (cB.cBs w.ks)) (mkD 3 (w.ls.map lnkD)))) (z3 := (Nb N F)) (z4 := (Wx 9 0 0 (mkD 5 (cB.cBs w.ks)) (mkD 3 (w.ls.map lnkD)))) hG h o1 o2 rfl rfl rfl rfl rfl 100 w hw hk (by have := hw.lens; omega)
  have hwf := folds_inv hG 100 hw
  have hkf := folds_ne hG 100 hw hk
  generalize foldsW n 100 w = wf at *
  have hlf := web_ls hwf hG hkf
  rw [fbox_ne hkf hlf] at hloop
  have hFB : FB (bx ++ [Nb N F,E6,Wx 9 0 0 (mkD 5 (cB.cBs w.ks)) (mkD 3 (w.ls.map lnkD)),Nb N F,Wx 9 0 0 (mkD 5 (cB.cBs w.ks)) (mkD 3 (w.ls.map lnkD)),[.dat N,.dat F,.own true 5 (cB.cBs wf.ks),.own true 3 (wf.ls.map lnkD)]]) (bx.length + 5) N F wf :=
   ⟨by simp,by rw [gar (by omega),show bx.length + 5 - bx.length = 5 by omega]; rfl,o1,o2⟩
  obtain ⟨c,hwb⟩ := web_ev hwf hG hkf hFB
  rw [List.set_append_right _ _ (by omega),show bx.length + 5 - bx.length = 5 by omega] at hwb
  have hwb : ev cfg (.call 30 [P5 bx] (bx ++ [Nb N F,E6,Wx 9 0 0 (mkD 5 (cB.cBs w.ks)) (mkD 3 (w.ls.map lnkD)),Nb N F,Wx 9 0 0 (mkD 5 (cB.cBs w.ks)) (mkD 3 (w.ls.map lnkD)),[.dat N,.dat F,.own true 5 (cB.cBs wf.ks),.own true 3 (wf.ls.map lnkD)]])) =
    some (.ret (Wq 9 0 0 (mkD 5 (cB.cBs wf.ks)) (mkD 3 (wf.ls.map lnkD))) (some ⟨bx ++ [Nb N F,E6,Wx 9 0 0 (mkD 5 (cB.cBs w.ks)) (mkD 3 (w.ls.map lnkD)),Nb N F,Wx 9 0 0 (mkD 5 (cB.cBs w.ks)) (mkD 3 (w.ls.map lnkD)),c],bx.length + 5,false⟩)) := hwb
  have hg := gateW_ev hFB.lt hFB.get (q := 0) (by cases hq : wf.ks with | nil => exact absurd hq hkf | cons => simp)
  have n0 : (((cB.cBs wf.ks).length : Int) == 0) = false := by
   rw [cBs_len,beq_eq_false_iff_ne]
   cases hq : wf.ks with
   | nil => exact absurd hq hkf
   | cons => simp; omega
  have hweb : pB (.mk 9 0 0 wf.ks wf.ls) = Wq 9 0 0 (mkD 5 (cB.cBs wf.ks)) (mkD 3 (wf.ls.map lnkD)) := rfl
  have hg0 : ∀ b bs,wf.ks = b :: bs -> gateW wf.ks 0 = (b.kd == 8) := fun b bs e => gate_iff (i := 0) (by rw [e]; rfl)
  match hq : wf.ks,hkf with
  | [b],_ =>
   have n1 : (((cB.cBs wf.ks).length : Int) == 1) = true := by rw [hq]; rfl
   rw [hg0 b [] hq] at hg
   rw [resW,hq]
   simp only
   by_cases hb8 : (b.kd == 8) = true
   ·rw [hb8] at hg
    rw [if_neg (by rw [hb8]; simp)]
    rw [<- hq,hweb]
    exact es (fFold_gate o1 o2 c1 c2 hb ho hloop n0 n1 hg hwb (mkD_one 5 _) (mkD_one 3 _))
   ·rw [Bool.not_eq_true] at hb8
    rw [hb8] at hg
    by_cases h2 : (wf.ls.length == 2) = true
    ·rw [if_pos (by rw [hb8,h2]; rfl)]
     have hr : (cB.cBs wf.ks)[0]? = some (cB b) := by rw [hq]; rfl
     have n2 : (((wf.ls.map lnkD).length : Int) == 2) = true := by
      rw [List.length_map]; simp at h2 ⊢; omega
     obtain ⟨k,nn,a,ks,ls⟩ := b
     exact es (fFold_one o1 o2 c1 c2 hb ho hloop n0 n1 hg n2 hr (mkD_one 5 _) (mkD_one 3 _))
    ·rw [Bool.not_eq_true] at h2
     rw [if_neg (by rw [h2]; simp)]
     have n2 : (((wf.ls.map lnkD).length : Int) == 2) = false := by
      rw [List.length_map]; simp at h2 ⊢; omega
     rw [<- hq,hweb]
     exact es (fFold_links o1 o2 c1 c2 hb ho hloop n0 n1 hg n2 hwb (mkD_one 5 _) (mkD_one 3 _))
  | b :: b' :: bs,_ =>
   have n1 : (((cB.cBs wf.ks).length : Int) == 1) = false := by
    rw [cBs_len,hq,beq_eq_false_iff_ne]; simp; omega
   rw [resW,hq]
   simp only
   rw [<- hq,hweb]
   exact es (fFold_many o1 o2 c1 c2 hb ho hloop n0 n1 hwb (mkD_one 5 _) (mkD_one 3 _))
end
end Go.Proofs.YtifckjhggamefaaGreatDoor
