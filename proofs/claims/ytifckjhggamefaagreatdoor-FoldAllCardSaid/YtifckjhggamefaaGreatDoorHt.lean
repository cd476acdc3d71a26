/- What the folder's round and step answer. No condition. -/
import Derived.Test.YtifckjhggamefaaGreatDoorHs
import Derived.Test.YtifckjhggamefaaGreatDoorHo
import Derived.Laws.Strings
import Derived.Test.YtifckjhggamefaaGreatDoorHh
set_option linter.unusedSimpArgs false
set_option linter.unusedVariables false
set_option linter.unusedSectionVars false
namespace Go.Proofs.YtifckjhggamefaaGreatDoor
open Go Go.Vx
set_option maxRecDepth 10000
set_option maxHeartbeats 1000000
section
variable {n : Nt} {w : Wb} {bx : List Box} {l : Nat} {N F : D}
theorem round_step {os cs gs ws : List (List D)} {s lv : Int} {i : Nat} {y : Wz} {z0 z1 z2 z3 z4 : Box} (hl : l < bx.length) (y0 : z0.all (cellLt (bx.length + 5)) = true) (y1 : z1.all (cellLt (bx.length + 5)) = true) (y2 : z2.all (cellLt (bx.length + 5)) = true) (y3 : z3.all (cellLt (bx.length + 5)) = true) (y4 : z4.all (cellLt (bx.length + 5)) = true)
  (hget : ws[i]? = some (wyR y)) (hlt : i < ws.length) (hmax : ws.length < 1000) (hgs : gs.length < 1000) :
  Jq (.loop 64 18 (qs bx (sh64_18 (.ptr l 0) (I s) (.own true 1 os) (I lv) (P4 bx) (.own true 1 cs) (.own true 1 gs) (.own true 3 ws) (I ws.length) (I i)) [z0,z1,z2,z3,z4])) =
   ev cfg (.loop 64 18 (qs bx (sh64_18 (.ptr l 0) (I s) (.own true 1 os) (I lv) (P4 bx) (.own true 1 cs) (.own true 1 (gs ++ if 0 <= y.by_ then [[dI y.by_]] else [])) (.own true 3 ws) (I ws.length) (I ((i + 1 : Nat) : Int))) [z0,z1,z2,z3,z4])) := by
 by_cases h0 : 0 <= y.by_
 ·rw [if_pos h0]
  exact fround_i1 hl y0 y1 y2 y3 y4 hget hlt (by omega) (dqt h0) (by omega)
 ·rw [if_neg h0,List.append_nil]
  exact fround_i0 hl y0 y1 y2 y3 y4 hget hlt (by omega) (dqf h0)
theorem round_loop {os cs : List (List D)} {s lv : Int} {sj : Int} {d g : Wz} (hl : l < bx.length) (z0 z1 z2 z3 z4 : Box) (y0 : z0.all (cellLt (bx.length + 5)) = true) (y1 : z1.all (cellLt (bx.length + 5)) = true) (y2 : z2.all (cellLt (bx.length + 5)) = true) (y3 : z3.all (cellLt (bx.length + 5)) = true) (y4 : z4.all (cellLt (bx.length + 5)) = true) :
  ev cfg (.loop 64 18 (qs bx (sh64_18 (.ptr l 0) (I s) (.own true 1 os) (I lv) (P4 bx) (.own true 1 cs) (.own true 1 [[dI sj]]) (.own true 3 [wyR d,wyR g]) (I ((2 : Nat) : Int)) (I 0)) [z0,z1,z2,z3,z4])) =
   some (.loop (.exit 2) (qs bx (se64_18 (.ptr l 0) (I s) (.own true 1 os) (I lv) (P4 bx) (.own true 1 cs) (.own true 1 (iR ([sj] ++ [d.by_,g.by_].filter fun x => decide (0 <= x))))) [z0,z1,z2,z3,z4])) := by
 have e : iR ([sj] ++ [d.by_,g.by_].filter fun x => decide (0 <= x)) = ([[dI sj]] ++ if 0 <= d.by_ then [[dI d.by_]] else []) ++ if 0 <= g.by_ then [[dI g.by_]] else [] := by
  by_cases h1 : 0 <= d.by_ <;> by_cases h2 : 0 <= g.by_ <;> simp [h1,h2,iR]
 rw [e]
 have h1 := round_step (ws := [wyR d,wyR g]) (i := 0) (y := d) (os := os) (cs := cs) (gs := [[dI sj]]) (s := s) (lv := lv) hl y0 y1 y2 y3 y4 rfl (by simp) (by simp) (by simp)
 have h2 := round_step (ws := [wyR d,wyR g]) (i := 1) (y := g) (os := os) (cs := cs) (gs := [[dI sj]] ++ if 0 <= d.by_ then [[dI d.by_]] else []) (s := s) (lv := lv) hl y0 y1 y2 y3 y4 rfl (by simp) (by simp) (by split <;> simp)
 have h3 := fround_iend (l := l) (ws := [wyR d,wyR g]) (os := os) (cs := cs) (s := s) (lv := lv) (gs := ([[dI sj]] ++ if 0 <= d.by_ then [[dI d.by_]] else []) ++ if 0 <= g.by_ then [[dI g.by_]] else []) hl y0 y1 y2 y3 y4 (m := 2) (i := 2) (Nat.le_refl _)
 exact es (h1.trans (es (h2.trans (es h3))))
theorem three_eq {j : Nat} : threeAt n w j = if (gkW n w j != 5 || (insW w.ls j).length != 2 || (outsW w.ls j).length != 1) = true then none
  else if (gkW n w (followW w (hd (outsW w.ls j))).to != 5 || (outsW w.ls (followW w (hd (outsW w.ls j))).to).length != 2) = true then none
  else if ((followW w ((outsW w.ls (followW w (hd (outsW w.ls j))).to).getD 0 0)).to == (j : Int)) = ((followW w ((outsW w.ls (followW w (hd (outsW w.ls j))).to).getD 1 0)).to == (j : Int)) then none
  else if ((followW w ((outsW w.ls (followW w (hd (outsW w.ls j))).to).getD 1 0)).to == (j : Int)) = true then
   some (dropW ⟨w.ks.set j (.mk 7 (nodeW w.ks (followW w (hd (outsW w.ls j))).to) 0 [partW w (followW w (hd (outsW w.ls j))),partW w (followW w ((outsW w.ls (followW w (hd (outsW w.ls j))).to).getD 1 0))] []),setFrom w.ls ((outsW w.ls (followW w (hd (outsW w.ls j))).to).getD 0 0) j⟩
    ([(followW w (hd (outsW w.ls j))).to] ++ ([(followW w (hd (outsW w.ls j))).by_,(followW w ((outsW w.ls (followW w (hd (outsW w.ls j))).to).getD 1 0)).by_].filter (fun x => decide (0 <= x))))
    [hd (outsW w.ls j),(followW w (hd (outsW w.ls j))).last,(outsW w.ls (followW w (hd (outsW w.ls j))).to).getD 1 0,(followW w ((outsW w.ls (followW w (hd (outsW w.ls j))).to).getD 1 0)).last])
  else
   some (dropW ⟨w.ks.set j (.mk 7 (nodeW w.ks (followW w (hd (outsW w.ls j))).to) 1 [partW w (followW w (hd (outsW w.ls j))),partW w (followW w ((outsW w.ls (followW w (hd (outsW w.ls j))).to).getD 0 0))] []),setFrom w.ls ((outsW w.ls (followW w (hd (outsW w.ls j))).to).getD 1 0) j⟩
    ([(followW w (hd (outsW w.ls j))).to] ++ ([(followW w (hd (outsW w.ls j))).by_,(followW w ((outsW w.ls (followW w (hd (outsW w.ls j))).to).getD 0 0)).by_].filter (fun x => decide (0 <= x))))
    [hd (outsW w.ls j),(followW w (hd (outsW w.ls j))).last,(outsW w.ls (followW w (hd (outsW w.ls j))).to).getD 0 0,(followW w ((outsW w.ls (followW w (hd (outsW w.ls j))).to).getD 0 0)).last]) := by
 unfold threeAt
 simp only
 split
 ·rfl
 ·split
  ·rfl
  ·split
   ·rfl
   ·split <;> rename_i h <;> simp [h]
theorem round_at (hG : Gates n) (hN : IsN n N F) (hw : InvW n w) (hB : FB bx l N F w) {j : Nat} (hj : j < w.ks.length) :
  match threeAt n w j with
  | none => Jq (.loop 64 2 (q0 bx (sh64_2 (.ptr l 0) (I (cB.cBs w.ks).length) (I j)))) = ev cfg (.loop 64 2 (q0 bx (sh64_2 (.ptr l 0) (I (cB.cBs w.ks).length) (I ((j + 1 : Nat) : Int)))))
  | some x => Jq (.loop 64 2 (q0 bx (sh64_2 (.ptr l 0) (I (cB.cBs w.ks).length) (I j)))) = some (.loop .ret ⟨(se64_2 (B true)),bx.set l (fbox N F x),bx.length,some l,false⟩) := by
 have hlens := hw.lens
 have hkl : (cB.cBs w.ks).length = w.ks.length := cBs_len _
 have hlt : j < (cB.cBs w.ks).length := by rw [hkl]; exact hj
 have hmax : (cB.cBs w.ks).length < 9223372036854775808 := by rw [hkl]; omega
 have h1 := isW_ev (kd := 5) hN hw hB.lt hB.get (show (j : Int) < w.ks.length by omega) (by decide) false
 by_cases c1 : gkW n w j = 5 /\ (outsW w.ls j).length = 1
 case neg =>
  have e : ((gkW n w j == 5) && (decide (((outsW w.ls j).length : Int) > 1) == false)) = false := by
   by_cases h5 : gkW n w j = 5
   ·obtain ⟨_,_,_,_,_,_,_,_,hc⟩ := gate_ok hG hw (s := j) (by rw [h5]; decide)
    have : decide (((outsW w.ls j).length : Int) > 1) = true := dqt (by omega)
    rw [this]; simp
   ·rw [show (gkW n w j == 5) = false from beq_eq_false_iff_ne.2 h5]; rfl
  rw [e] at h1
  have ht : threeAt n w j = none := by
   rw [three_eq,if_pos]
   simp only [Bool.or_eq_true,bne_iff_ne,ne_eq]
   omega
  rw [ht]
  exact fround_p1 hB.lt hB.get hlt hmax h1
 obtain ⟨g5,o1⟩ := c1
 have e : ((gkW n w j == 5) && (decide (((outsW w.ls j).length : Int) > 1) == false)) = true := by
  rw [g5,o1]; rfl
 rw [e] at h1
 have h2 := insW_ev hB.lt hB.get (by omega) (j : Int)
 have hins : ∃ k ks,insW w.ls j = k :: ks := by
  obtain ⟨_,_,_,_,_,_,_,_,hc⟩ := gate_ok hG hw (s := j) (by rw [g5]; decide)
  cases hi : insW w.ls j with
  | nil => rw [hi] at hc; simp at hc
  | cons k ks => exact ⟨k,ks,rfl⟩
 obtain ⟨ik,iks,hik⟩ := hins
 have h2 : ev cfg (.call 83 [.ptr l 0,I j] bx) = Rq (.own true 1 (nR (insW w.ls j))) := by rw [h2,hik]; rfl
 by_cases c2 : (insW w.ls j).length = 2
 case neg =>
  have n2 : (((nR (insW w.ls j)).length : Int) != 2) = true := by rw [nR_len]; simp; omega
  have ht : threeAt n w j = none := by
   rw [three_eq,if_pos]
   simp only [Bool.or_eq_true,bne_iff_ne,ne_eq]
   omega
  rw [ht]
  exact fround_p2 hB.lt hB.get hlt hmax h1 h2 n2
 have n2 : (((nR (insW w.ls j)).length : Int) != 2) = false := by rw [nR_len,c2]; rfl
 have hth := three_eq (n := n) (w := w) (j := j)
 rw [if_neg (by rw [g5,c2,o1]; decide)] at hth
 have hjo := hd_one o1
 have hol : hd (outsW w.ls j) < w.ls.length := (outsW_lt (hd_mem (by omega))).1
 have h3 := outsW_ev hB.lt hB.get (by omega) (j : Int)
 rw [hth]
 clear hth
 rw [hjo] at h3
 generalize hqo : hd (outsW w.ls j) = oj at *
 have h3 : ev cfg (.call 84 [.ptr l 0,I j] bx) = Rq (.own true 1 ([dI oj] :: [])) := h3
 have h4 := followW_ev hw hB.lt hB.get hol
 have hdlt := to_lt hw hol
 have h5 : ∀ r : Box,_ := fun r : Box => isW_ev (kd := 5) hN hw (hB.ex [r]).lt (hB.ex [r]).get hdlt (by decide) true
 have h6 : ∀ r : Box,_ := fun r : Box => outsW_ev (hB.ex [r]).lt (hB.ex [r]).get (by omega) (followW w oj).to
 by_cases c3 : gkW n w (followW w oj).to = 5 /\ (outsW w.ls (followW w oj).to).length > 1
 case neg =>
  have e : ((gkW n w (followW w oj).to == 5) && (decide (((outsW w.ls (followW w oj).to).length : Int) > 1) == true)) = false := by
   by_cases h5 : gkW n w (followW w oj).to = 5
   ·have : decide (((outsW w.ls (followW w oj).to).length : Int) > 1) = false := dqf (by omega)
    rw [this]; simp
   ·rw [show (gkW n w (followW w oj).to == 5) = false from beq_eq_false_iff_ne.2 h5]; rfl
  rw [e] at h5
  rw [if_pos (by simp only [Bool.or_eq_true,bne_iff_ne,ne_eq]; omega)]
  exact fround_p3 hB.lt hB.get hlt hmax h1 h2 n2 h3 h4 h5
 obtain ⟨gs5,os1⟩ := c3
 have e : ((gkW n w (followW w oj).to == 5) && (decide (((outsW w.ls (followW w oj).to).length : Int) > 1) == true)) = true := by
  rw [gs5,dqt (show ((outsW w.ls (followW w oj).to).length : Int) > 1 by omega)]; rfl
 rw [e] at h5
 by_cases c4 : (outsW w.ls (followW w oj).to).length = 2
 case neg =>
  rw [if_pos (by simp only [Bool.or_eq_true,bne_iff_ne,ne_eq]; omega)]
  have h6' : ∀ r : Box,ev cfg (.call 84 [.ptr l 0,I (followW w oj).to] (bx ++ [r])) = Rq (.own true 1 (nR (outsW w.ls (followW w oj).to))) := fun r => by
   rw [h6 r]
   cases ho : outsW w.ls (followW w oj).to with
   | nil => rw [ho] at os1; simp at os1
   | cons => rfl
  exact fround_p4 hB.lt hB.get hlt hmax h1 h2 n2 h3 h4 h5 h6' (by rw [nR_len]; simp; omega)
 rw [if_neg (by rw [gs5,c4]; decide)]
 have hso := two_list c4
 have hoal : (outsW w.ls (followW w oj).to).getD 0 0 < w.ls.length /\ (outsW w.ls (followW w oj).to).getD 1 0 < w.ls.length := by
  constructor
  ·refine (outsW_lt (x := (followW w oj).to) ?_).1
   rw [hso]; simp
  ·refine (outsW_lt (x := (followW w oj).to) ?_).1
   rw [hso]; simp
 generalize (outsW w.ls (followW w oj).to).getD 0 0 = oa at *
 generalize (outsW w.ls (followW w oj).to).getD 1 0 = ob at *
 obtain ⟨hal,hbl⟩ := hoal
 have h6' : ∀ r : Box,ev cfg (.call 84 [.ptr l 0,I (followW w oj).to] (bx ++ [r])) = Rq (.own true 1 [[dI oa],[dI ob]]) := fun r => by
  rw [h6 r,hso]; rfl
 have h7 : ∀ r : Box,_ := fun r : Box => followW_ev hw (hB.ex [r]).lt (hB.ex [r]).get hal
 have h8 : ∀ r : Box,_ := fun r : Box => followW_ev hw (hB.ex [r]).lt (hB.ex [r]).get hbl
 by_cases c5 : ((followW w oa).to == (j : Int)) = ((followW w ob).to == (j : Int))
 ·rw [if_pos c5]
  exact fround_p5 hB.lt hB.get hlt hmax h1 h2 n2 h3 h4 h5 h6' h7 h8 (by rw [c5]; simp)
 rw [if_neg c5]
 have hd0 : ¬ (followW w oj).to < 0 := by
  intro hh
  rw [gkW,gateW,kidW,if_pos hh] at gs5
  simp at gs5
 obtain ⟨s,hs⟩ : ∃ s : Nat,(followW w oj).to = s := ⟨(followW w oj).to.toNat,by omega⟩
 have hsl : s < w.ks.length := by omega
 have hks := gge hsl
 have hkj := gge hj
 have hnode : nodeW w.ks (followW w oj).to = w.ks[s].nd := by rw [hs,nodeW,kid_nat,hks]
 have hpd : ∀ r1 r2 r3 r4 : Box,_ := fun r1 r2 r3 r4 : Box => partW_ev (ls := w.ls) (hB.ex [r1,r2,r3,r4]).lt (hB.ex [r1,r2,r3,r4]).get (by_lt hw hol)
 have hpa : ∀ r1 r2 r3 r4 : Box,_ := fun r1 r2 r3 r4 : Box => partW_ev (ls := w.ls) (hB.ex [r1,r2,r3,r4]).lt (hB.ex [r1,r2,r3,r4]).get (by_lt hw hal)
 have hpb : ∀ r1 r2 r3 r4 : Box,_ := fun r1 r2 r3 r4 : Box => partW_ev (ls := w.ls) (hB.ex [r1,r2,r3,r4]).lt (hB.ex [r1,r2,r3,r4]).get (by_lt hw hbl)
 have hoj : ∀ r0 r1 r2 r3 r4 : Box,ev cfg (.call 84 [.ptr l 0,I j] (bx ++ [r0,r1,r2,r3,r4])) = Rq (.own true 1 ([dI oj] :: [])) := fun r0 r1 r2 r3 r4 => by
  have hE := hB.ex [r0,r1,r2,r3,r4]
  rw [outsW_ev hE.lt hE.get (by omega),hjo]; rfl
 have hrs := cBs_get hks
 have hrj := cBs_get hkj
 rw [hnode]
 have key : ∀ (lv : Int) (g : Wz) (p q : Nat),q < w.ls.length -> g = followW w q -> p < w.ls.length -> ∀ (r0 r1 r2 r3 r4 : Box),ev cfg (.call 93 [.ptr l 0,.dat (.sl 1 (iR ([(followW w oj).to] ++ [(followW w oj).by_,g.by_].filter fun x => decide (0 <= x)))),.dat (.sl 1 [[dI oj],[dI (followW w oj).last],[dI q],[dI g.last]])] (bx.set l [.dat N,.dat F,.own true 5 ((cB.cBs w.ks).set j (cB (.mk 7 w.ks[s].nd lv [partW w (followW w oj),partW w g] []))),.own true 3 ((w.ls.map lnkD).set p [dI (j : Nat),dI (lkW w.ls p).2.1,dI (lkW w.ls p).2.2])] ++ [r0,r1,r2,r3,r4])) =
   some (.ret (.tup []) (some ⟨bx.set l (fbox N F (dropW ⟨w.ks.set j (.mk 7 w.ks[s].nd lv [partW w (followW w oj),partW w g] []),setFrom w.ls p j⟩ ([(followW w oj).to] ++ [(followW w oj).by_,g.by_].filter fun x => decide (0 <= x)) [oj,(followW w oj).last,q,g.last])) ++ [r0,r1,r2,r3,r4],l,false⟩)) := by
  intro lv g p q hql hg hpl r0 r1 r2 r3 r4
  generalize hP : Blk.mk 7 w.ks[s].nd lv [partW w (followW w oj),partW w g] [] = P
  have hFB2 : FB (bx.set l [.dat N,.dat F,.own true 5 (cB.cBs (w.ks.set j P)),.own true 3 ((setFrom w.ls p j).map lnkD)]) l N F ⟨w.ks.set j P,setFrom w.ls p j⟩ := FB.set (w := w) (w' := ⟨w.ks.set j P,setFrom w.ls p j⟩) hB
  have hE := hFB2.ex [r0,r1,r2,r3,r4]
  have hfl : ([(followW w oj).by_,g.by_].filter fun x => decide (0 <= x)).length <= 2 := List.length_filter_le _ _
  have h := dropW_ev (w := ⟨w.ks.set j P,setFrom w.ls p j⟩) (gone := [(followW w oj).to] ++ [(followW w oj).by_,g.by_].filter fun x => decide (0 <= x)) (cut := [oj,(followW w oj).last,q,g.last]) (X := .sl 1 (iR ([(followW w oj).to] ++ [(followW w oj).by_,g.by_].filter fun x => decide (0 <= x)))) (Z := .sl 1 [[dI oj],[dI (followW w oj).last],[dI q],[dI g.last]]) (by simp only [lls,setFrom_len]; omega) (by
   simp only [lls]
   refine setFrom_rng (fun l hl => ⟨(hw.rng l hl).1,(hw.rng l hl).2.1⟩) fun hk => ⟨?_,(hw.rng _ (mog (lk_of hk))).2.1⟩
   constructor
   ·show (-1 : Int) <= (j : Int); omega
   ·show (j : Int) < _; omega) hE.lt hE.get ⟨1,rfl,by simp,rfl⟩ ⟨1,rfl,by simp,rfl⟩ (by rw [List.length_append]; simp; omega)
  rw [setFrom_map,<- cBs_set] at h
  rw [h,set_app (by simpa using hB.lt),List.set_set]
 have hform : ∀ (lv : Int) (g : Wz),cB (.mk 7 w.ks[s].nd lv [partW w (followW w oj),partW w g] []) = [dI 7,dI w.ks[s].nd,dI lv,.sl 5 [cB (partW w (followW w oj)),cB (partW w g)],.nil] := fun _ _ => rfl
 have hnd : ∀ b : Blk,∃ k a K L,cB b = [dI k,dI b.nd,dI a,K,L] := by
  intro b; obtain ⟨k,nn,a,ks,ls⟩ := b; exact ⟨k,a,_,_,rfl⟩
 have hpm : ∀ y,partW ⟨w.ks,w.ls⟩ y = partW w y := fun _ => rfl
 simp only [hpm] at hpd hpa hpb
 simp only [hform] at key
 obtain ⟨k1,a1,K1,L1,e1⟩ := hnd w.ks[s]
 obtain ⟨k2,a2,K2,L2,e2⟩ := hnd w.ks[j]
 rw [e1] at hrs
 rw [e2] at hrj
 clear hform hnd e1 e2 hpm
 rw [hs] at h4 h5 h6' hpd key ⊢
 generalize followW w oj = d at *
 generalize partW w d = pd at *
 by_cases c6 : ((followW w ob).to == (j : Int)) = true
 ·rw [if_pos c6]
  have c7 : ((followW w oa).to == (j : Int)) = false := by
   cases h : ((followW w oa).to == (j : Int)) with
   | false => rfl
   | true => exact absurd (h.trans c6.symm) c5
  have hk := key 0 (followW w ob) oa ob hbl rfl hal
  have hin := fun z0 z1 z2 z3 z4 y0 y1 y2 y3 y4 => round_loop (os := [[dI oa],[dI ob]]) (cs := [[dI oj],[dI d.last],[dI ob],[dI (followW w ob).last]]) (s := (j : Int)) (lv := 0) (sj := (s : Int)) (d := d) (g := followW w ob) hB.lt z0 z1 z2 z3 z4 y0 y1 y2 y3 y4
  generalize followW w ob = g at *
  generalize hpg : partW w g = pg at *
  obtain ⟨qk,qn,qa,qks,qls⟩ := pd
  obtain ⟨rk,rn,ra,rks,rls⟩ := pg
  obtain ⟨dto,dby,dla⟩ := d
  simp only at hs
  subst hs
  exact fround_go0 (dby := dby) (dla := (dla : Nat)) hB.lt hB.get hlt hmax h1 h2 n2 h3 h4 h5 h6' h7 h8 c7 c6 hrj hrs (mkD_one 5 _) (mkD_one 3 _) (mkD_one 5 _) (mkD_one 3 _) hpd hpb hoj hin (lnk_getk hal) hk
 ·rw [if_neg c6]
  rw [Bool.not_eq_true] at c6
  have c7 : ((followW w oa).to == (j : Int)) = true := by
   cases h : ((followW w oa).to == (j : Int)) with
   | true => rfl
   | false => exact absurd (h.trans c6.symm) c5
  have hk := key 1 (followW w oa) ob oa hal rfl hbl
  have hin := fun z0 z1 z2 z3 z4 y0 y1 y2 y3 y4 => round_loop (os := [[dI oa],[dI ob]]) (cs := [[dI oj],[dI d.last],[dI oa],[dI (followW w oa).last]]) (s := (j : Int)) (lv := 1) (sj := (s : Int)) (d := d) (g := followW w oa) hB.lt z0 z1 z2 z3 z4 y0 y1 y2 y3 y4
  generalize followW w oa = g at *
  generalize hpg : partW w g = pg at *
  obtain ⟨qk,qn,qa,qks,qls⟩ := pd
  obtain ⟨rk,rn,ra,rks,rls⟩ := pg
  obtain ⟨dto,dby,dla⟩ := d
  simp only at hs
  subst hs
  exact fround_go1 (dby := dby) (dla := (dla : Nat)) hB.lt hB.get hlt hmax h1 h2 n2 h3 h4 h5 h6' h7 h8 c7 c6 hrj hrs (mkD_one 5 _) (mkD_one 3 _) (mkD_one 5 _) (mkD_one 3 _) hpd hpa hoj hin (lnk_getk hbl) hk
end
section
variable {n : Nt} {w : Wb} {bx : List Box} {l : Nat} {N F : D}
theorem round_ev (hG : Gates n) (hN : IsN n N F) (hw : InvW n w) (hB : FB bx l N F w) :
  ev cfg (.call 64 [.ptr l 0] bx) = match firstAt (threeAt n w) 0 w.ks.length with
   | none => (Rq (B false))
   | some x => some (.ret (B true) (some ⟨bx.set l (fbox N F x),l,false⟩)) := by
 have hkl : (cB.cBs w.ks).length = w.ks.length := cBs_len _
 have loop : ∀ (m i : Nat),i + m = w.ks.length -> ev cfg (.loop 64 2 (q0 bx (sh64_2 (.ptr l 0) (I (cB.cBs w.ks).length) (I i)))) = match firstAt (threeAt n w) i m with
   | none => some (.loop (.exit 0) (q0 bx (se64_2 .dead)))
   | some x => some (.loop .ret ⟨(se64_2 (B true)),bx.set l (fbox N F x),bx.length,some l,false⟩) := by
  intro m
  induction m with
  | zero =>
   intro i hi
   exact es (fround_end hB.lt (by rw [hkl]; omega))
  | succ m ih =>
   intro i hi
   have h := round_at hG hN hw hB (j := i) (by omega)
   rw [firstAt]
   cases ho : threeAt n w i with
   | none =>
    rw [ho] at h
    have h2 := ih (i + 1) (by omega)
    rw [<- h] at h2
    simp only
    cases hf : firstAt (threeAt n w) (i + 1) m <;> (rw [hf] at h2; exact es h2)
   | some x =>
    rw [ho] at h
    exact es h
 have h := loop w.ks.length 0 (Nat.zero_add _)
 cases hf : firstAt (threeAt n w) 0 w.ks.length with
 | none => rw [hf] at h; exact es (fround_f hB.lt hB.get h)
 | some x => rw [hf] at h; exact es (fround_t hB.lt hB.get h)
theorem step_ev (hG : Gates n) (hN : IsN n N F) (hw : InvW n w) (hB : FB bx l N F w) :
  ev cfg (.call 28 [.ptr l 0] bx) = some (.ret (I (nextW n w).2) (if (nextW n w).2 = 0 then none else some ⟨bx.set l (fbox N F (nextW n w).1),l,false⟩)) := by
 have h1 := inRow_ev hw hB
 have h2 := closed_ev hG hN hw hB
 have h3 := round_ev hG hN hw hB
 unfold nextW
 cases f1 : firstAt (oneAt w) 0 w.ks.length with
 | some x => rw [f1] at h1; exact es (fstep_1 hB.lt h1)
 | none =>
  rw [f1] at h1
  simp only
  cases f2 : firstAt (twoAt n w) 0 w.ks.length with
  | some x => rw [f2] at h2; exact es (fstep_2 hB.lt h1 h2)
  | none =>
   rw [f2] at h2
   simp only
   cases f3 : firstAt (threeAt n w) 0 w.ks.length with
   | some x => rw [f3] at h3; exact es (fstep_3 hB.lt h1 h2 h3)
   | none => rw [f3] at h3; exact es (fstep_0 hB.lt h1 h2 h3)
end
theorem first_some {f : Nat -> Option Wb} {p : Wb -> Prop} : ∀ {m i : Nat} {x : Wb},(∀ j,i <= j -> j < i + m -> ∀ y,f j = some y -> p y) -> firstAt f i m = some x -> p x
 | 0,i,x,_,h => by cases h
 | m + 1,i,x,hp,h => by
  rw [firstAt] at h
  cases hf : f i with
  | some y =>
   rw [hf] at h
   obtain rfl := sij h
   exact hp i (Nat.le_refl _) (by omega) _ hf
  | none =>
   rw [hf] at h
   exact first_some (fun j h1 h2 => hp j (by omega) (by omega)) h
theorem next_inv {n : Nt} {w : Wb} (hG : Gates n) (h : InvW n w) : InvW n (nextW n w).1 /\ ((nextW n w).2 ≠ 0 -> (nextW n w).1.ls.length < w.ls.length) /\ ((nextW n w).2 = 0 -> (nextW n w).1 = w) /\ (0 <= (nextW n w).2 /\ (nextW n w).2 <= 3) /\ (w.ks ≠ [] -> (nextW n w).1.ks ≠ []) := by
 unfold nextW
 cases f1 : firstAt (oneAt w) 0 w.ks.length with
 | some x =>
  have := first_some (p := fun x => InvW n x /\ x.ls.length < w.ls.length /\ x.ks ≠ []) (fun j _ hj y hy => one_inv h (by omega) hy) f1
  exact ⟨this.1,fun _ => this.2.1,fun e => absurd (show (1 : Int) = 0 from e) (by decide),show (0 : Int) <= 1 /\ (1 : Int) <= 3 by decide,fun _ => this.2.2⟩
 | none =>
  simp only
  cases f2 : firstAt (twoAt n w) 0 w.ks.length with
  | some x =>
   have := first_some (p := fun x => InvW n x /\ x.ls.length < w.ls.length /\ x.ks ≠ []) (fun j _ hj y hy => two_inv hG h (by omega) hy) f2
   exact ⟨this.1,fun _ => this.2.1,fun e => absurd (show (2 : Int) = 0 from e) (by decide),show (0 : Int) <= 2 /\ (2 : Int) <= 3 by decide,fun _ => this.2.2⟩
  | none =>
   simp only
   cases f3 : firstAt (threeAt n w) 0 w.ks.length with
   | some x =>
    have := first_some (p := fun x => InvW n x /\ x.ls.length < w.ls.length /\ x.ks ≠ []) (fun j _ hj y hy => three_inv hG h (by omega) hy) f3
    exact ⟨this.1,fun _ => this.2.1,fun e => absurd (show (3 : Int) = 0 from e) (by decide),show (0 : Int) <= 3 /\ (3 : Int) <= 3 by decide,fun _ => this.2.2⟩
   | none => exact ⟨h,fun e => absurd rfl e,fun _ => rfl,show (0 : Int) <= 0 /\ (0 : Int) <= 3 by decide,fun h => h⟩
def foldsW (n : Nt) : Nat -> Wb -> Wb
 | 0,w => w
 | k + 1,w => foldsW n k (nextW n w).1
theorem folds_inv {n : Nt} (hG : Gates n) : ∀ (k : Nat) {w : Wb},InvW n w -> InvW n (foldsW n k w)
 | 0,_,h => h
 | k + 1,w,h => folds_inv hG k (next_inv hG h).1
theorem folds_stop {n : Nt} {w : Wb} (h : (nextW n w).2 = 0) (h1 : (nextW n w).1 = w) : ∀ k,foldsW n k w = w
 | 0 => rfl
 | k + 1 => by rw [foldsW,h1]; exact folds_stop h h1 k
theorem folds_end {n : Nt} (hG : Gates n) : ∀ (k : Nat) {w : Wb},InvW n w -> w.ls.length <= k -> (nextW n (foldsW n k w)).2 = 0
 | 0,w,h,hl => by
  rcases Int.lt_or_eq_of_le (next_inv hG h).2.2.2.1.1 with h0 | h0
  ·have := (next_inv hG h).2.1 (by omega); omega
  ·exact h0.symm
 | k + 1,w,h,hl => by
  rw [foldsW]
  by_cases h0 : (nextW n w).2 = 0
  ·have h1 := (next_inv hG h).2.2.1 h0
   rw [h1,folds_stop h0 h1]; exact h0
  ·have := (next_inv hG h).2.1 h0
   exact folds_end hG k (next_inv hG h).1 (by omega)
theorem folds_ne {n : Nt} (hG : Gates n) : ∀ (k : Nat) {w : Wb},InvW n w -> w.ks ≠ [] -> (foldsW n k w).ks ≠ []
 | 0,_,_,h => h
 | k + 1,w,h,hk => folds_ne hG k (next_inv hG h).1 ((next_inv hG h).2.2.2.2 hk)
theorem web_ls {n : Nt} {w : Wb} (h : InvW n w) (hG : Gates n) (hk : w.ks ≠ []) : w.ls ≠ [] := by
 intro e
 obtain ⟨b,bs,hb⟩ := List.exists_cons_of_ne_nil hk
 have h0 : w.ks[0]? = some b := by rw [hb]; rfl
 have hk := h.kid 0 b h0
 have hz : (insW w.ls (0 : Nat)).length = 0 /\ (outsW w.ls (0 : Nat)).length = 0 := by rw [e]; exact ⟨rfl,rfl⟩
 rw [hz.1,hz.2] at hk
 by_cases h8 : b.kd = 8
 ·obtain ⟨g1,g2,g3,g4⟩ := hk.gate h8
  have := hG.2 b.nd g1.1 g1.2 g2
  omega
 ·have := hk.one h8
  omega
theorem fold_loop {n : Nt} {bx : List Box} {N F : D} {z0 z1 z2 z3 z4 : Box} (hG : Gates n) (hN : IsN n N F) (o1 : Oq N) (o2 : Oq F) (y0 : z0.all (cellLt (bx.length + 6)) = true) (y1 : z1.all (cellLt (bx.length + 6)) = true) (y2 : z2.all (cellLt (bx.length + 6)) = true) (y3 : z3.all (cellLt (bx.length + 6)) = true) (y4 : z4.all (cellLt (bx.length + 6)) = true) :
  ∀ (k : Nat) (w : Wb),InvW n w -> w.ks ≠ [] -> w.ls.length <= k →
   ev cfg (.loop 9 5 (qs bx (sh9_5 (P1 bx) (P5 bx)) [z0,z1,z2,z3,z4,fbox N F w])) =
    some (.loop (.exit 0) (qs bx (se9_5 (P1 bx) (P5 bx)) [z0,z1,z2,z3,z4,fbox N F (foldsW n k w)])) := by
 have yf : ∀ w : Wb,(fbox N F w).all (cellLt (bx.length + 6)) = true := fun w => by
  rw [fbox]
  cases cB.cBs w.ks <;> cases w.ls.map lnkD <;> rfl
 have hfb : ∀ w : Wb,InvW n w -> w.ks ≠ [] -> FB (bx ++ [z0,z1,z2,z3,z4,fbox N F w]) (bx.length + 5) N F w := fun w hw hk => by
  refine ⟨by simp,?_,o1,o2⟩
  rw [gar (by omega),show bx.length + 5 - bx.length = 5 by omega]
  show some (fbox N F w) = _
  rw [fbox_ne hk (web_ls hw hG hk)]
 have hset : ∀ w w' : Wb,(bx ++ [z0,z1,z2,z3,z4,fbox N F w]).set (bx.length + 5) (fbox N F w') = bx ++ [z0,z1,z2,z3,z4,fbox N F w'] := fun w w' => by
  rw [List.set_append_right _ _ (by omega),show bx.length + 5 - bx.length = 5 by omega]; rfl
 intro k
 induction k with
 | zero =>
  intro w hw hk hl
  have h0 := folds_end hG 0 hw hl
  have hs := step_ev hG hN hw (hfb w hw hk)
  rw [show (nextW n w).2 = 0 from h0,if_pos rfl] at hs
  exact es (fFold_stop y0 y1 y2 y3 y4 (yf w) hs)
 | succ k ih =>
  intro w hw hk hl
  have hs := step_ev hG hN hw (hfb w hw hk)
  by_cases h0 : (nextW n w).2 = 0
  ·have h1 := (next_inv hG hw).2.2.1 h0
   rw [h0,if_pos rfl] at hs
   rw [folds_stop h0 h1]
   exact es (fFold_stop y0 y1 y2 y3 y4 (yf w) hs)
  ·rw [if_neg h0,hset] at hs
   have hn := next_inv hG hw
   have hlt := hn.2.1 h0
   exact es ((fFold_go y0 y1 y2 y3 y4 (yf w) (yf _) hs (by simpa using h0)).trans (ih _ hn.1 (hn.2.2.2.2 hk) (by omega)))
theorem web_ev {n : Nt} {w : Wb} {bx : List Box} {l : Nat} {N F : D} (hw : InvW n w) (hG : Gates n) (hk : w.ks ≠ []) (hB : FB bx l N F w) :
  ∃ c : Box,ev cfg (.call 30 [.ptr l 0] bx) = some (.ret (Wq 9 0 0 (mkD 5 (cB.cBs w.ks)) (mkD 3 (w.ls.map lnkD))) (some ⟨bx.set l c,l,false⟩)) := by
 have hls := web_ls hw hG hk
 obtain ⟨b,bs,hb⟩ := List.exists_cons_of_ne_nil hk
 obtain ⟨x,xs,hx⟩ := List.exists_cons_of_ne_nil hls
 have hget := hB.get
 rw [hb,hx] at hget
 refine ⟨[.dat N,.dat F,.own false 5 (cB.cBs (b :: bs)),.own false 3 ((x :: xs).map lnkD)],?_⟩
 rw [hb,hx]
 exact es (fweb_f hB.lt hget)
def plR (rule : Int) (ks : List Nat) : List (List D) := ks.map fun (k : Nat) => [dI rule,dI ((k : Nat) : Int)]
theorem plR_app (r : Int) (xs ys : List Nat) : plR r (xs ++ ys) = plR r xs ++ plR r ys := by simp [plR]
theorem plR_len (r : Int) (xs : List Nat) : (plR r xs).length = xs.length := by simp [plR]
theorem places_ev {g : FuncId} {cap : List Nat} (rule : Int) {m : Nat} {bx : List Box} (w : Nat -> Bool) (hcap : (cap.all fun l => decide (l < bx.length)) = true) (hm : m <= 1000000)
  (hcall : ∀ i,i < m -> ev cfg (.call g (I i :: cap.map fun l => .ptr l 0) bx) = Rq (B (w i))) :
  ev cfg (.call 107 [I rule,I m,.clo g cap] bx) = Rq (mkS 2 (plR rule ((List.range m).filter w))) := by
 have loop : ∀ (j i : Nat) (acc : List Nat),i + j = m -> acc.length <= i -> ev cfg (.loop 107 3 (q0 bx (sh107_3 (I rule) (.clo g cap) (mkS 2 (plR rule acc)) (I m) (I i)))) =
   some (.loop (.exit 0) (q0 bx (se107_3 (mkS 2 (plR rule (acc ++ (List.range' i j).filter w)))))) := by
  intro j
  induction j with
  | zero =>
   intro i acc hi ha
   rw [List.range'_zero,List.filter_nil,List.append_nil]
   exact es (places_end hcap (by omega))
  | succ j ih =>
   intro i acc hi ha
   have hc1 := hcall i (by omega)
   have e : acc ++ (List.range' i (j + 1)).filter w = (if w i = true then acc ++ [i] else acc) ++ (List.range' (i + 1) j).filter w := by
    rw [List.range'_succ,List.filter_cons]
    split <;> simp
   rw [e]
   have hacc : (if w i = true then acc ++ [i] else acc).length <= i + 1 := by split <;> (try simp) <;> omega
   refine es (Eq.trans ?_ (ih (i + 1) (if w i = true then acc ++ [i] else acc) (by omega) hacc))
   have hks : ((plR rule acc).length + 1) * 16 <= 140737488355328 := by rw [plR_len]; omega
   cases acc with
   | nil =>
    refine (places_round0 hcap (by omega) (by omega) hc1).trans ?_
    cases w i <;> rfl
   | cons a acc =>
    refine (places_round1 (rs := plR rule (a :: acc)) hcap (by omega) (by omega) hks hc1).trans ?_
    cases w i
    ·rfl
    ·simp only [if_true,plR_app]; rfl
 refine es (places_f hcap ?_)
 have := loop m 0 [] (by omega) (Nat.le_refl _)
 rw [List.nil_append,<- List.range_eq_range'] at this
 exact this
theorem outs_lt {n : Nt} {i : Int} {o : Nat} (h : o ∈ outsN n i) : o < n.flows.length := by
 obtain ⟨_,x,h1,_⟩ := (mem_idxs _ _ _ _).1 h
 exact (gsi.1 h1).1
theorem kind_at {n : Nt} {p : Nat} (h : p < n.nodes.length) : kindN n p = n.nodes[p].k := by
 rw [kindN,if_neg (by omega)]
 simp [h]
theorem to_at {n : Nt} {p : Nat} (h : p < n.flows.length) : toN n p = n.flows[p].to := by simp [toN,h]
theorem els_at {n : Nt} {p : Nat} (h : p < n.flows.length) : elsN n p = n.flows[p].els := by simp [elsN,h]
def Ends (n : Nt) : Prop := ∀ f ∈ n.flows,(0 <= f.fr /\ f.fr < n.nodes.length) /\ 0 <= f.to /\ f.to < n.nodes.length
theorem beq_nat (m k : Nat) : ((m : Int) == (k : Int)) = (m == k) := by rw [Bool.eq_iff_iff,beq_iff_eq,beq_iff_eq]; omega
theorem linked_ev {n : Nt} {N F : D} (h : IsN n N F) (hsz : n.flows.length <= 1000000) (hE : Ends n) {p : Nat} (hp : p < n.nodes.length) (bx : List Box) :
  ev cfg (.call 137 [Nq N F,I p] bx) = Rq (B (linkedN n p)) := by
 have hO := fun bx : List Box => outs_ev h hsz p bx
 have hI := fun bx : List Box => ins_ev h hsz p bx
 have hol : (outsN n p).length <= 1000000 := Nat.le_trans (idxs_len _ _ _) hsz
 obtain ⟨o1,o2⟩ := isN_one h
 obtain ⟨nr,fr,hN,hnr,_,hF,hfr,_⟩ := h
 obtain ⟨row,hrow,_,_,op2,m2,K2,rfl,hT2⟩ := hnr.get hp
 have hX := mkD_is 1 (natR (outsN n p))
 have hXl : (natR (outsN n p)).length = (outsN n p).length := natR_len _
 have loop : ∀ (ins kd : Int) (os : List Nat) (i el : Nat) (cat : Bool),(outsN n p).drop i = os -> el <= i →
   ev cfg (.loop 137 6 (qs bx (sh137_6 (P0 bx) (.dat (mkD 1 (natR (outsN n p)))) (I ins) (I kd) (I el) (B cat) (.dat (mkD 1 (natR (outsN n p)))) (I (natR (outsN n p)).length) (I i)) [Nb N F])) =
   some (.loop (.exit 0) (qs bx (se137_6 (.dat (mkD 1 (natR (outsN n p)))) (I ins) (I kd) (I ((el + (os.filter (elsN n)).length : Nat) : Int)) (B (cat && os.all fun f => kindN n (toN n f) == 8))) [Nb N F])) := by
  intro ins kd os
  induction os with
  | nil =>
   intro i el cat hd _
   rw [List.filter_nil,List.length_nil,Nat.add_zero,List.all_nil,Bool.and_true]
   exact es (link_end o1 o2 (mkD_one _ _) (by rw [hXl]; exact drop_nil hd))
  | cons o os ih =>
   intro i el cat hd hel
   obtain ⟨hget,hd',hlt⟩ := drop_cons hd
   have hol2 : o < n.flows.length := outs_lt (mog hget)
   obtain ⟨row,hfrow,_,_,op,m,K,rfl,hT⟩ := hfr.get hol2
   have hends := hE n.flows[o] (List.getElem_mem hol2)
   obtain ⟨q,hq⟩ : ∃ q : Nat,n.flows[o].to = q := ⟨n.flows[o].to.toNat,by omega⟩
   have hql : q < n.nodes.length := by omega
   obtain ⟨row,hnrow,_,_,op3,m3,K3,rfl,hT3⟩ := hnr.get hql
   rw [hq] at hfrow
   have hXget : (natR (outsN n p))[i]? = some [dI (o : Int)] := by simp [natR,hget]
   have hr := link_round (bx := bx) (el := (el : Int)) (ins := ins) (kd := kd) (cat := cat) hN hF hX hXget hfrow hnrow (by rw [hXl]; exact hlt) (by rw [hXl]; omega) (wrap_lo (by omega) (by omega))
   have hk8 : (kindN n (toN n o) == 8) = (n.nodes[q].k == 8) := by rw [to_at hol2,hq,kind_at hql]
   have hel' : (if n.flows[o].els = true then (el : Int) + 1 else el) = ((if elsN n o = true then el + 1 else el : Nat) : Int) := by
    rw [els_at hol2]; split <;> simp
   rw [hel',<- hk8] at hr
   have e1 : el + ((o :: os).filter (elsN n)).length = (if elsN n o = true then el + 1 else el) + (os.filter (elsN n)).length := by
    rw [List.filter_cons]; split <;> simp <;> omega
   rw [e1,List.all_cons,<- Bool.and_assoc]
   exact es (hr.trans (ih (i + 1) (if elsN n o = true then el + 1 else el) (cat && kindN n (toN n o) == 8) hd' (by split <;> omega)))
 have hl := fun kd : Int => loop (natR (insN n p)).length kd (outsN n p) 0 0 true rfl (Nat.le_refl _)
 have hk : kindN n p = n.nodes[p].k := kind_at hp
 have hY := mkD_is 1 (natR (insN n p))
 have hYl : (natR (insN n p)).length = (insN n p).length := natR_len _
 have g0 : ∀ m : Nat,((m : Int) == 0) = (m == 0) := fun m => beq_nat m 0
 have g1 : ∀ m : Nat,((m : Int) == 1) = (m == 1) := fun m => beq_nat m 1
 have gg : ∀ m : Nat,decide ((m : Int) > 1) = decide (1 < m) := fun m => decide_eq_decide.2 (by omega)
 rw [linkedN]
 simp only [hk]
 generalize n.nodes[p].k = k at hrow
 have hl0 := hl k
 simp only [Nat.zero_add,Bool.true_and] at hl0
 by_cases k1 : k = 1
 ·subst k1
  rw [if_pos rfl,es (link_1 hN o2 hX hY hrow hO hI hl0),hXl,hYl,g0,g1]
 rw [if_neg k1]
 by_cases k2 : k = 2
 ·subst k2
  rw [if_pos rfl,es (link_2 hN o2 hX hY hrow hO hI hl0),hXl,hYl,g0,g1]
 rw [if_neg k2]
 by_cases k7 : k = 7
 ·subst k7
  rw [if_pos rfl,es (link_7 hN o2 hX hY hrow hO hI hl0),hXl,hYl,gg,g1]
 rw [if_neg k7]
 by_cases k5 : k = 5
 ·subst k5
  rw [if_pos rfl,es (link_5 hN o2 hX hY hrow hO hI hl0),hXl,hYl,gg,gg,g1,g1,g1,<- Bool.and_assoc]
 rw [if_neg k5]
 by_cases k6 : k = 6
 ·subst k6
  rw [if_pos rfl,es (link_6 hN o2 hX hY hrow hO hI hl0),hXl,hYl,gg,gg,g1,g1]
 rw [if_neg k6,es (link_o (by simpa using k1) (by simpa using k2) (by simpa using k7) (by simpa using k5) (by simpa using k6) hN o2 hX hY hrow hO hI hl0),hXl,hYl,g1,g1]
def thirdW (n : Nt) (i : Nat) : Bool := !linkedN n i || ((kindN n i == 1 && (i : Int) != startN n) || (kindN n i == 2 && (i : Int) != endN n))
theorem third_ev {n : Nt} {N F : D} (h : IsN n N F) (hsz : n.flows.length <= 1000000) (hsz2 : n.nodes.length <= 1000000) (hE : Ends n) (bx : List Box) :
  ev cfg (.call 112 [Nq N F] bx) = Rq (mkS 2 (plR 3 ((List.range n.nodes.length).filter (thirdW n)) ++ if (decide (startN n < 0) || decide (endN n < 0)) = true then [[dI 3,dI n.nodes.length]] else [])) := by
 have hs := fun bx : List Box => start_ev h bx
 have hz := fun bx : List Box => end_ev h bx
 have hl := fun (p : Nat) (hp : p < n.nodes.length) (bx : List Box) => linked_ev h hsz hE hp bx
 obtain ⟨o1,o2⟩ := isN_one h
 obtain ⟨nr,fr,hN,hnr,_,hF,hfr,_⟩ := h
 have hlen : nr.length = n.nodes.length := hnr.1
 have hpl := places_ev (g := 136) (cap := [bx.length,bx.length + 1,bx.length + 2]) 3 (m := n.nodes.length) (bx := bx ++ [Nb N F,[I (startN n)],[I (endN n)]]) (thirdW n) (by simp) hsz2 fun p hp => by
  obtain ⟨row,hrow,_,_,op2,m2,K2,rfl,hT2⟩ := hnr.get hp
  have := third1_f (bx := bx ++ [Nb N F,[I (startN n)],[I (endN n)]]) (l1 := bx.length) (l2 := bx.length + 1) (l3 := bx.length + 2) (s := startN n) (z := endN n) hN o2 hrow (by simp) (by simp) (by simp) (by simp) (by simp) (by simp) (hl p hp _)
  refine es (this.trans ?_)
  rw [thirdW,kind_at hp]
 rw [<- hlen] at hpl ⊢
 cases hf : (List.range nr.length).filter (thirdW n) with
 | nil =>
  rw [hf] at hpl
  rw [es (third_f0 hN o2 hs hz hpl)]
  congr 2
  split <;> rfl
 | cons a l =>
  rw [hf] at hpl
  have hks : ((plR 3 (a :: l)).length + 1) * 16 <= 140737488355328 := by
   rw [plR_len,<- hf]
   have := List.length_filter_le (thirdW n) (List.range nr.length)
   rw [List.length_range] at this
   omega
  rw [es (third_f1 hks hN o2 hs hz hpl)]
  congr 2
  split
  ·rfl
  ·rw [List.append_nil]; rfl
theorem boolR_get {bs : List Bool} {i : Nat} {b : Bool} (h : bs[i]? = some b) : (boolR bs)[i]? = some [.lit (.bool b)] := by simp [boolR,h]
theorem boolR_set (bs : List Bool) (i : Nat) (b : Bool) : (boolR bs).set i [.lit (.bool b)] = boolR (bs.set i b) := by simp [boolR,List.map_set]
theorem boolR_rep (m : Nat) : List.replicate m [D.lit (.bool false)] = boolR (List.replicate m false) := by simp [boolR]
theorem intR_app (xs ys : List Int) : intR (xs ++ ys) = intR xs ++ intR ys := by simp [intR]
theorem intR_len (xs : List Int) : (intR xs).length = xs.length := by simp [intR]
theorem met_ev {n : Nt} {N F : D} (h : IsN n N F) (hfl : n.flows.length <= 1000) (hnd : n.nodes.length <= 1000) (hE : Ends n) (back : Bool) {a : Int} (ha : 0 <= a /\ a < n.nodes.length) :
  ∃ seen : List Bool,seen.length = n.nodes.length /\ (∀ i : Nat,seen[i]? = some true ↔ Rch (EdgeB n back) a i) /\ Cq 113 [Nq N F,I a,B back] (.dat (.sl 1 (boolR seen))) := by
 obtain ⟨o1,o2⟩ := isN_one h
 obtain ⟨nr,fr,hN,hnr,_,hF,hfr,_⟩ := h
 have hlen : nr.length = n.nodes.length := hnr.1
 have hflen : fr.length = n.flows.length := hfr.1
 have inner : ∀ (bx : List Box) (sr : List (List D)) (q : Nat) (fs : List Fl) (i : Nat) (todo : List Int),n.flows.drop i = fs -> todo.length + fs.length <= 10000000 →
   ev cfg (.loop 113 9 (qs bx (sh113_9 (B back) (P0 bx) (.own true 1 sr) (.own true 1 (intR todo)) (I q) (.dat F) (I fr.length) (I i)) [Nb N F])) =
   some (.loop (.exit 2) (qs bx (se113_9 (B back) (P0 bx) (.own true 1 sr) (.own true 1 (intR (todo ++ fs.filterMap (nextF back q))))) [Nb N F])) := by
  intro bx sr q fs
  have hc : (Nb N F : Box).all (cellLt (bx.length + 1)) = true := by simp [cellLt]
  induction fs with
  | nil =>
   intro i todo hd _
   rw [List.filterMap_nil,List.append_nil]
   exact es (met_ine o2 hc (by rw [hflen]; exact drop_nil hd))
  | cons f fs ih =>
   intro i todo hd hsz
   obtain ⟨hget,hd',hlt⟩ := drop_cons hd
   obtain ⟨row,hrow,_,_,op,m,K,rfl,hT⟩ := hfr.2 i f hget
   have hr := met_in (bx := bx) (c := (Nb N F)) (q := q) (back := back) (sr := sr) (tr := intR todo) hF hc hrow (isT_one hT) (by rw [hflen]; exact hlt) (by rw [hflen]; omega) (by rw [intR_len]; simp at hsz; omega)
   have e1 : (if back = true then (if (f.to == (q : Int)) = true then intR todo ++ [[dI f.fr]] else intR todo) else if (f.fr == (q : Int)) = true then intR todo ++ [[dI f.to]] else intR todo) = intR (todo ++ (nextF back q f).toList) := by
    simp only [nextF,beq_iff_eq]
    split <;> split <;> simp [intR_app,intR]
   have e2 : todo ++ (f :: fs).filterMap (nextF back q) = (todo ++ (nextF back q f).toList) ++ fs.filterMap (nextF back q) := by
    rw [List.filterMap_cons]
    cases nextF back q f <;> simp
   rw [e1] at hr
   rw [e2]
   refine es (hr.trans (ih (i + 1) _ hd' ?_))
   have : (nextF back q f).toList.length <= 1 := by cases nextF back q f <;> simp
   simp at hsz ⊢
   omega
 have outer : ∀ (m : Nat) (todo : List Int) (seen : List Bool),MetInv n back a todo seen -> unseen seen * (n.flows.length + 1) + todo.length <= m -> m <= 5000000 →
   ∃ fin : List Bool,fin.length = n.nodes.length /\ (∀ i : Nat,fin[i]? = some true ↔ Rch (EdgeB n back) a i) /\ ∀ bx : List Box,
    ev cfg (.loop 113 3 (qs bx (sh113_3 (B back) (P0 bx) (.own true 1 (boolR seen)) (.own true 1 (intR todo))) [Nb N F])) =
    some (.loop (.exit 0) (qs bx (se113_3 (.own true 1 (boolR fin))) [Nb N F])) := by
  intro m
  induction m with
  | zero =>
   intro todo seen hi hm _
   have : todo = [] := List.length_eq_zero_iff.1 (by omega)
   subst this
   exact ⟨seen,hi.len,hi.done hE ha.1,fun bx => es (met_end o1 o2)⟩
  | succ m ih =>
   intro todo seen hi hm hle
   cases todo with
   | nil => exact ⟨seen,hi.len,hi.done hE ha.1,fun bx => es (met_end o1 o2)⟩
   | cons t todo =>
    have ht := hi.rng t mcs
    obtain ⟨q,rfl⟩ : ∃ q : Nat,t = q := ⟨t.toNat,by omega⟩
    have hq : q < seen.length := by rw [hi.len]; omega
    have hqq : ((q : Int)).toNat = q := by omega
    cases hs : seen[q] with
    | true =>
     have hs' : seen[q]? = some true := by rw [gge hq,hs]
     obtain ⟨fin,w1,w2,w3⟩ := ih todo seen (hi.skip (by rw [hqq]; exact hs')) (by simp at hm; omega) (by omega)
     exact ⟨fin,w1,w2,fun bx => es ((met_skip (tr := intR todo) o1 o2 (boolR_get hs')).trans (w3 bx))⟩
    | false =>
     have hs' : seen[q]? = some false := by rw [gge hq,hs]
     have hv := hi.visit hE
     rw [hqq] at hv
     have hu := unseen_set _ _ hs'
     have hnx : (n.flows.filterMap (nextF back q)).length <= n.flows.length := List.length_filterMap_le _ _
     have hmul : unseen seen * (n.flows.length + 1) = unseen (seen.set q true) * (n.flows.length + 1) + (n.flows.length + 1) := by rw [<- hu,Nat.add_mul,Nat.one_mul]
     obtain ⟨fin,w1,w2,w3⟩ := ih _ _ hv (by simp at hm ⊢; omega) (by omega)
     refine ⟨fin,w1,w2,fun bx => es ((met_visit (tr := intR todo) (fin := intR (todo ++ n.flows.filterMap (nextF back q))) o1 hF (boolR_get hs') ?_).trans ?_)⟩
     ·exact inner bx _ q n.flows 0 todo rfl (by simp at hm; omega)
     ·rw [boolR_set]; exact w3 bx
 have hinit : MetInv n back a [a] (List.replicate n.nodes.length false) := by
  refine ⟨by simp,fun t ht => by rw [List.mem_singleton] at ht; subst ht; exact ha,fun i hi => ?_,fun t ht => by rw [List.mem_singleton] at ht; subst ht; exact .refl,fun i hi => ?_,.inl (List.mem_singleton.2 rfl)⟩
  ·rw [List.getElem?_replicate] at hi; split at hi <;> simp at hi
  ·rw [List.getElem?_replicate] at hi; split at hi <;> simp at hi
 have hu := unseen_le (List.replicate n.nodes.length false)
 rw [List.length_replicate] at hu
 have hmul : unseen (List.replicate n.nodes.length false) * (n.flows.length + 1) <= 1000 * 1001 := Nat.mul_le_mul (by omega) (by omega)
 obtain ⟨fin,w1,w2,w3⟩ := outer 2000000 [a] _ hinit (by simp; omega) (by omega)
 refine ⟨fin,w1,w2,fun bx => es (met_f hN o2 (by omega) ?_)⟩
 rw [hlen,boolR_rep]
 exact w3 bx
def OkN (n : Nt) : Prop := n.nodes.length <= 24 /\ n.flows.length <= 40 /\ (∀ x ∈ n.nodes,rightN ofT x = true) /\ (∀ f ∈ n.flows,leadsN ofT n f = true) /\ (∀ i,i < n.nodes.length -> thirdW n i = false) /\ 0 <= startN n /\ 0 <= endN n ∧
 ∀ i : Nat,i < n.nodes.length -> Rch (EdgeB n false) (startN n) i /\ Rch (EdgeB n true) (endN n) i
theorem leads_ends {n : Nt} (h : ∀ f ∈ n.flows,leadsN ofT n f = true) : Ends n := fun f hf => by
 have := h f hf
 simp only [leadsN,inN,Bool.and_eq_true,dqE] at this
 omega
theorem filter_cons_iff {w : Nat -> Bool} {m : Nat} : (List.range m).filter w = [] ↔ ∀ i,i < m -> w i = false := by
 simp [List.filter_eq_nil_iff]
theorem plR_cons {r : Int} {ks : List Nat} (h : ks ≠ []) : ∃ q rs,plR r ks = [dI r,dI q] :: rs := by
 cases ks with
 | nil => exact absurd rfl h
 | cons k ks => exact ⟨k,plR r ks,rfl⟩
theorem ncheck_ev {n : Nt} {N F : D} (h : IsN n N F) (hfl : n.flows.length <= 1000) (hnd : n.nodes.length <= 1000) (hz : ∀ t ∈ termsN n,sizeT t <= 1000000) :
  ∃ r q : Int,(r = 0 ↔ OkN n) /\ Cq 33 [Nq N F] (.tup [I r,I q]) := by
 obtain ⟨o1,o2⟩ := isN_one h
 have h0 := h
 obtain ⟨nr,fr,hN,hnr,_,hF,hfr,_⟩ := h
 have hlen : nr.length = n.nodes.length := hnr.1
 have hflen : fr.length = n.flows.length := hfr.1
 have done : ∀ (r q : Int) (rs : List (List D)),(r = 0 ↔ OkN n) -> (Cq 68 [Nq N F] (.own true 2 ([dI r,dI q] :: rs))) →
   ∃ r q : Int,(r = 0 ↔ OkN n) /\ Cq 33 [Nq N F] (.tup [I r,I q]) :=
  fun r q rs h1 h2 => ⟨r,q,h1,fun bx => es (check_1 o1 o2 h2)⟩
 by_cases hb : (decide ((nr.length : Int) > 24) || decide ((fr.length : Int) > 40)) = true
 ·refine done 1 0 [] ⟨fun e => (by cases e),fun e => ?_⟩ fun bx => es (all_big hN hF hb)
  simp only [Bool.or_eq_true,dqE] at hb
  obtain ⟨e1,e2,_⟩ := e
  omega
 have hb' := hb
 simp only [Bool.not_eq_true,Bool.or_eq_false_iff] at hb'
 obtain ⟨c1,c2⟩ := hb'
 have hn24 : n.nodes.length <= 24 /\ n.flows.length <= 40 := by
  simp only [decide_eq_false_iff_not] at c1 c2; omega
 have hpl1 := fun bx : List Box => places_ev (g := 108) (cap := [bx.length]) 1 (m := n.nodes.length) (bx := bx ++ [Nb N F]) (fun p => !(match n.nodes[p]? with | some x => rightN ofT x | none => true)) (by simp) (by omega) fun p hp => by
  obtain ⟨row,hrow,_,_,op2,m2,K2,rfl,hT2⟩ := hnr.get hp
  have hm : n.nodes[p].t ∈ termsN n := List.mem_append_left _ (List.mem_map.2 ⟨_,List.getElem_mem hp,rfl⟩)
  have := all1_f (bx := bx ++ [Nb N F]) (l := bx.length) hN o2 (by simp) (by simp) hrow (isT_one hT2) fun bx => right_ev n.nodes[p] hT2 (hz _ hm) bx
  refine es (this.trans ?_)
  simp [hp]
 rw [<- hlen] at hpl1
 have hall1 : (List.range nr.length).filter (fun p => !(match n.nodes[p]? with | some x => rightN ofT x | none => true)) = [] ↔ ∀ x ∈ n.nodes,rightN ofT x = true := by
  rw [filter_cons_iff,hlen]
  constructor
  ·intro h x hx
   obtain ⟨i,hi,rfl⟩ := List.getElem_of_mem hx
   have := h i hi
   simpa [hi] using this
  ·intro h i hi
   simp [hi,h]
 by_cases k1 : ¬((List.range nr.length).filter (fun p => !(match n.nodes[p]? with | some x => rightN ofT x | none => true)) = [])
 ·obtain ⟨q,rs,e⟩ := plR_cons (r := 1) k1
  rw [e] at hpl1
  refine done 1 q rs ⟨fun e => (by cases e),fun e => absurd (hall1.2 e.2.2.1) k1⟩ fun bx => es (all_1 hN hF c1 c2 (by simp) (hpl1 bx))
 replace k1 := Classical.not_not.1 k1
 rw [k1] at hpl1
 have hpl2 := fun bx : List Box => places_ev (g := 110) (cap := [bx.length]) 2 (m := n.flows.length) (bx := bx ++ [Nb N F]) (fun p => !(match n.flows[p]? with | some x => leadsN ofT n x | none => true)) (by simp) (by omega) fun p hp => by
  obtain ⟨row,hrow,_,_,op2,m2,K2,rfl,hT2⟩ := hfr.get hp
  have hm : n.flows[p].c ∈ termsN n := List.mem_append_right _ (List.mem_map.2 ⟨_,List.getElem_mem hp,rfl⟩)
  have := all2_f (bx := bx ++ [Nb N F]) (l := bx.length) o1 hF (by simp) (by simp) hrow (isT_one hT2) fun bx => leads_ev h0 (by omega) n.flows[p] hT2 (hz _ hm) bx
  refine es (this.trans ?_)
  simp [hp]
 rw [<- hflen] at hpl2
 have hall2 : (List.range fr.length).filter (fun p => !(match n.flows[p]? with | some x => leadsN ofT n x | none => true)) = [] ↔ ∀ x ∈ n.flows,leadsN ofT n x = true := by
  rw [filter_cons_iff,hflen]
  constructor
  ·intro h x hx
   obtain ⟨i,hi,rfl⟩ := List.getElem_of_mem hx
   have := h i hi
   simpa [hi] using this
  ·intro h i hi
   simp [hi,h]
 by_cases k2 : ¬((List.range fr.length).filter (fun p => !(match n.flows[p]? with | some x => leadsN ofT n x | none => true)) = [])
 ·obtain ⟨q,rs,e⟩ := plR_cons (r := 2) k2
  rw [e] at hpl2
  refine done 2 q rs ⟨fun e => (by cases e),fun e => absurd (hall2.2 e.2.2.2.1) k2⟩ fun bx => es (all_2 hN hF c1 c2 (by simp) (hpl1 bx) (hpl2 bx))
 replace k2 := Classical.not_not.1 k2
 rw [k2] at hpl2
 have hEnds := leads_ends (hall2.1 k2)
 have h3 := fun bx : List Box => third_ev h0 (by omega) (by omega) hEnds bx
 by_cases k3 : ¬((∀ i,i < n.nodes.length -> thirdW n i = false) /\ 0 <= startN n /\ 0 <= endN n)
 ·have hne : ∃ q rs,plR 3 ((List.range n.nodes.length).filter (thirdW n)) ++ (if (decide (startN n < 0) || decide (endN n < 0)) = true then [[dI 3,dI n.nodes.length]] else []) = [dI 3,dI q] :: rs := by
   by_cases k4 : (List.range n.nodes.length).filter (thirdW n) = []
   ·rw [k4]
    have : ¬ (0 <= startN n /\ 0 <= endN n) := fun hh => k3 ⟨filter_cons_iff.1 k4,hh⟩
    rw [if_pos (by simp only [Bool.or_eq_true,dqE]; omega)]
    exact ⟨n.nodes.length,[],rfl⟩
   ·obtain ⟨q,rs,e⟩ := plR_cons (r := 3) k4
    rw [e]; exact ⟨q,_,rfl⟩
  obtain ⟨q,rs,e⟩ := hne
  rw [e] at h3
  exact done 3 q rs ⟨fun e => (by cases e),fun e => absurd ⟨e.2.2.2.2.1,e.2.2.2.2.2.1,e.2.2.2.2.2.2.1⟩ k3⟩ fun bx => es (all_3 hN hF c1 c2 (by simp) (hpl1 bx) (hpl2 bx) h3)
 replace k3 := Classical.not_not.1 k3
 obtain ⟨k3a,k3s,k3z⟩ := k3
 have e3 : plR 3 ((List.range n.nodes.length).filter (thirdW n)) ++ (if (decide (startN n < 0) || decide (endN n < 0)) = true then [[dI 3,dI n.nodes.length]] else []) = [] := by
  rw [filter_cons_iff.2 k3a,if_neg (by simp only [Bool.or_eq_true,dqE]; omega)]; rfl
 rw [e3] at h3
 have hs : 0 <= startN n /\ startN n < n.nodes.length := ⟨k3s,by have := firstK_ge 1 n.nodes 0; rw [startN] at k3s ⊢; omega⟩
 have he : 0 <= endN n /\ endN n < n.nodes.length := ⟨k3z,by have := firstK_ge 2 n.nodes 0; rw [endN] at k3z ⊢; omega⟩
 obtain ⟨sr,s1,s2,s3⟩ := met_ev h0 (by omega) (by omega) hEnds false hs
 obtain ⟨tr,t1,t2,t3⟩ := met_ev h0 (by omega) (by omega) hEnds true he
 have hpl4 := fun bx : List Box => places_ev (g := 116) (cap := [bx.length + 1,bx.length + 2]) 4 (m := n.nodes.length) (bx := bx ++ [Nb N F,[.dat (.sl 1 (boolR sr))],[.dat (.sl 1 (boolR tr))]]) (fun p => !(sr.getD p true) || !(tr.getD p true)) (by simp) (by omega) fun p hp => by
  have p1 : sr[p]? = some (sr.getD p true) := by simp [List.getD,s1,hp]
  have p2 : tr[p]? = some (tr.getD p true) := by simp [List.getD,t1,hp]
  have r1 := boolR_get p1
  have r2 := boolR_get p2
  have b1 : (bx ++ [Nb N F,[.dat (.sl 1 (boolR sr))],[.dat (.sl 1 (boolR tr))]] : List Box)[bx.length + 1]? = some [.dat (.sl 1 (boolR sr))] := by simp
  have b2 : (bx ++ [Nb N F,[.dat (.sl 1 (boolR sr))],[.dat (.sl 1 (boolR tr))]] : List Box)[bx.length + 2]? = some [.dat (.sl 1 (boolR tr))] := by simp
  have l1 : bx.length + 1 < (bx ++ [Nb N F,[.dat (.sl 1 (boolR sr))],[.dat (.sl 1 (boolR tr))]] : List Box).length := by simp
  have l2 : bx.length + 2 < (bx ++ [Nb N F,[.dat (.sl 1 (boolR sr))],[.dat (.sl 1 (boolR tr))]] : List Box).length := by simp
  generalize sr.getD p true = x at r1 ⊢
  generalize tr.getD p true = y at r2 ⊢
  exact es (all3_f l1 l2 b1 b2 r1 r2)
 rw [<- hlen] at hpl4
 have hA : Cq 68 [Nq N F] (mkS 2 (plR 4 ((List.range nr.length).filter (fun p => !(sr.getD p true) || !(tr.getD p true))))) := by
  generalize (List.range nr.length).filter (fun p => !(sr.getD p true) || !(tr.getD p true)) = ks at hpl4
  intro bx
  have q1 := hpl1 bx
  have q2 := hpl2 bx
  have q4 := hpl4 bx
  have q5 := fun bx : List Box => start_ev h0 bx
  have q6 := fun bx : List Box => end_ev h0 bx
  exact es (all_4 (Z := mkS 2 (plR 4 ks)) (rs := plR 4 ks) (sr := boolR sr) (tr := boolR tr) (s := startN n) (z := endN n) hN hF c1 c2 rfl q1 q2 h3 q5 q6 s3 t3 q4)
 have hall4 : (List.range nr.length).filter (fun p => !(sr.getD p true) || !(tr.getD p true)) = [] ↔ ∀ i : Nat,i < n.nodes.length -> Rch (EdgeB n false) (startN n) i /\ Rch (EdgeB n true) (endN n) i := by
  rw [filter_cons_iff,hlen]
  refine forall_congr' fun i => forall_congr' fun hi => ?_
  have p1 : sr[i]? = some (sr.getD i true) := by simp [List.getD,s1,hi]
  have p2 : tr[i]? = some (tr.getD i true) := by simp [List.getD,t1,hi]
  rw [<- s2 i,<- t2 i,p1,p2]
  cases sr.getD i true <;> cases tr.getD i true <;> simp
 by_cases k4 : (List.range nr.length).filter (fun p => !(sr.getD p true) || !(tr.getD p true)) = []
 ·rw [k4] at hA
  exact ⟨0,0,⟨fun _ => ⟨hn24.1,hn24.2,hall1.1 k1,hall2.1 k2,k3a,k3s,k3z,hall4.1 k4⟩,fun _ => rfl⟩,fun bx => es (check_0 o1 o2 hA)⟩
 ·obtain ⟨q,rs,e⟩ := plR_cons (r := 4) k4
  rw [e] at hA
  exact done 4 q rs ⟨fun e => (by cases e),fun e => absurd (hall4.2 e.2.2.2.2.2.2.2) k4⟩ hA
def nodeL (n : Nt) (k nd : Int) : List Int := if k = 6 then (outsN n nd).map (toN n) ++ [nd] else if k = 2 ∨ k = 4 ∨ k = 5 ∨ k = 7 ∨ k = 8 then [nd] else []
def nodesB (n : Nt) : Blk -> List Int
 | .mk k nd _ ks _ => nodeL n k nd ++ go ks
where
 go : List Blk -> List Int
 | [] => []
 | b :: bs => nodesB n b ++ go bs
abbrev upd (bx : List Box) (l : Nat) (acc xs : List Int) : List Box := if (!xs.isEmpty) = true then bx.set l [mkS 1 (intR (acc ++ xs))] else bx
abbrev updL (lo : Option Nat) (l : Nat) (xs : List Int) : Option Nat := if (!xs.isEmpty) = true then some l else lo
theorem upd_len (bx : List Box) (l : Nat) (acc xs : List Int) : (upd bx l acc xs).length = bx.length := by unfold upd; split <;> simp
theorem upd_get {bx : List Box} {l : Nat} {acc : List Int} (h : bx[l]? = some [mkS 1 (intR acc)]) (xs : List Int) : (upd bx l acc xs)[l]? = some [mkS 1 (intR (acc ++ xs))] := by
 have hl : l < bx.length := (gsi.1 h).1
 unfold upd
 cases xs with
 | nil => simpa using h
 | cons x xs => simp [hl]
theorem upd_ne {bx : List Box} {l l0 : Nat} {b : Box} (hne : l ≠ l0) (h : bx[l0]? = some b) (acc xs : List Int) : (upd bx l acc xs)[l0]? = some b := by
 unfold upd
 split
 ·rw [List.getElem?_set_ne hne]; exact h
 ·exact h
theorem upd_upd (bx : List Box) (l : Nat) (acc xs ys : List Int) : upd (upd bx l acc xs) l (acc ++ xs) ys = upd bx l acc (xs ++ ys) := by
 unfold upd
 cases xs with
 | nil => simp
 | cons x xs =>
  cases ys with
  | nil => simp
  | cons y ys => simp
theorem updL_updL (lo : Option Nat) (l : Nat) (xs ys : List Int) : updL (updL lo l xs) l ys = updL lo l (xs ++ ys) := by
 unfold updL
 cases xs <;> cases ys <;> simp
theorem nodeL_len {n : Nt} (hf : n.flows.length <= 1000) (k nd : Int) : (nodeL n k nd).length <= 1001 := by
 unfold nodeL
 split
 ·have := idxs_len (fun f : Fl => f.fr == nd) n.flows 0
  rw [List.length_append,List.length_map]
  simp only [outsN,List.length_singleton]
  omega
 ·split <;> simp
theorem box_ne {bx : List Box} {l l0 : Nat} {u : PV} {p q : PV} (h0 : bx[l0]? = some [p,q]) (h : bx[l]? = some [u]) : l ≠ l0 := by
 rintro rfl
 rw [h0] at h
 simp at h
theorem outs_flow {n : Nt} {nd : Int} {j : Nat} (h : j ∈ outsN n nd) : j < n.flows.length := outs_lt h
theorem nodes1_loop {n : Nt} {N F : D} (h : IsN n N F) (hsz : n.flows.length <= 1000) (nd : Int) {l l0 : Nat} (hne : l ≠ l0) : ∀ (os : List Nat) (i : Nat) (acc : List Int) (bx : List Box) (lo : Option Nat) (c : Box),(outsN n nd).drop i = os -> acc.length + os.length <= 1000000000 →
  bx[l0]? = some (Nb N F) -> bx[l]? = some [mkS 1 (intR acc)] -> (lo = none ∨ lo = some l) -> c.all (cellLt (bx.length + 1)) = true →
  ev cfg (.loop 77 9 ⟨(sh77_9 (.ptr l0 0) (.ptr l 0) (P0 bx) (.dat (mkD 1 (natR (outsN n nd)))) (I (natR (outsN n nd)).length) (I i)),bx ++ [c],bx.length,lo,false⟩) =
   some (.loop (.exit 3) ⟨(se77_9 (.ptr l 0) (P0 bx)),upd bx l acc (os.map (toN n)) ++ [c],bx.length,updL lo l (os.map (toN n)),false⟩) := by
 have hh := h
 obtain ⟨oN,_⟩ := isN_one h
 obtain ⟨nr,fr,hN,_,_,hF,hfr,hmax⟩ := h
 intro os
 induction os with
 | nil =>
  intro i acc bx lo c hd hs b0 b1 hlo hc
  have hl0 : l0 < bx.length := (gsi.1 b0).1
  have hl : l < bx.length := (gsi.1 b1).1
  exact es (nodes1_end (mkD_one _ _) hl0 hl hc (by rw [natR_len]; exact drop_nil hd) lo)
 | cons j os ih =>
  intro i acc bx lo c hd hs b0 b1 hlo hc
  have hl0 : l0 < bx.length := (gsi.1 b0).1
  have hl : l < bx.length := (gsi.1 b1).1
  obtain ⟨hget,hd',hlt⟩ := drop_cons hd
  have hj : j < n.flows.length := outs_flow (nd := nd) (mog hget)
  obtain ⟨row,hrow,_,_,op,m,K,rfl,hT⟩ := hfr.get hj
  have hg : (natR (outsN n nd))[i]? = some [dI (j : Nat)] := by simp [natR,hget]
  have hm : (natR (outsN n nd)).length < 9223372036854775808 := by
   have := idxs_len (fun f : Fl => f.fr == nd) n.flows 0
   rw [natR_len]; simp only [outsN]; omega
  have hx : (natR (outsN n nd)).length = (outsN n nd).length := natR_len _
  have to : toN n j = n.flows[j].to := to_at hj
  simp only [List.length_cons] at hs
  have rest := ih (i + 1) (acc ++ [toN n j]) (bx.set l [mkS 1 (intR (acc ++ [toN n j]))]) (some l) c hd' (by simp; omega) (by rw [List.getElem?_set_ne hne]; exact b0) (by simp [hl]) (.inr rfl) (by simpa using hc)
  simp only [P0,lls] at rest
  have e1 : upd (bx.set l [mkS 1 (intR (acc ++ [toN n j]))]) l (acc ++ [toN n j]) (os.map (toN n)) = upd bx l acc ((j :: os).map (toN n)) := by
   have := upd_upd bx l acc [toN n j] (os.map (toN n))
   simpa [upd] using this
  have e2 : updL (some l) l (os.map (toN n)) = updL lo l ((j :: os).map (toN n)) := by
   unfold updL; cases os <;> simp
  rw [e1,e2] at rest
  refine es (Eq.trans ?_ rest)
  cases acc with
  | nil =>
   refine (nodes1_round0 hF oN (mkD_is _ _) hl0 hl b0 hc hg hrow (by rw [hx]; exact hlt) hm lo hlo b1).trans ?_
   rw [to]; rfl
  | cons a acc =>
   refine (nodes1_round1 (acc := intR (a :: acc)) hF oN (mkD_is _ _) hl0 hl b0 hc hg hrow (by rw [hx]; exact hlt) hm lo hlo (by rw [intR_len]; simp at hs ⊢; omega) b1).trans ?_
   have e : (.own true 1 (intR (a :: acc) ++ [[dI n.flows[j].to]]) : PV) = mkS 1 (intR (a :: acc ++ [n.flows[j].to])) := by rw [intR_app]; rfl
   rw [to,e]
theorem nodes1_ev {n : Nt} {N F : D} (h : IsN n N F) (hsz : n.flows.length <= 1000) {k nd a : Int} {K L : D} (oK : Oq K) (oL : Oq L) {bx : List Box} {l l0 : Nat} {acc : List Int} (hs : acc.length + 1001 <= 1000000000)
  (b0 : bx[l0]? = some (Nb N F)) (b1 : bx[l]? = some [mkS 1 (intR acc)]) :
  ev cfg (.call 77 [Wq k nd a K L,.ptr l0 0,.ptr l 0] bx) = some (.ret (.tup []) (if (!(nodeL n k nd).isEmpty) = true then some ⟨bx.set l [mkS 1 (intR (acc ++ nodeL n k nd))],l,false⟩ else none)) := by
 have hl0 : l0 < bx.length := (gsi.1 b0).1
 have hl : l < bx.length := (gsi.1 b1).1
 have hne := box_ne b0 b1
 obtain ⟨oN,oF⟩ := isN_one h
 have hks : ((intR acc).length + 1) * 8 <= 140737488355328 := by rw [intR_len]; omega
 have one : ∀ (r : List Int),r = [nd] -> nodeL n k nd = r -> ev cfg (.call 77 [Wq k nd a K L,.ptr l0 0,.ptr l 0] bx) = some (.ret (.tup []) (some ⟨bx.set l [mkS 1 (intR (acc ++ [nd]))],l,false⟩)) -> ev cfg (.call 77 [Wq k nd a K L,.ptr l0 0,.ptr l 0] bx) = some (.ret (.tup []) (if (!(nodeL n k nd).isEmpty) = true then some ⟨bx.set l [mkS 1 (intR (acc ++ nodeL n k nd))],l,false⟩ else none)) := by
  intro r hr hn he
  rw [hn,hr]
  exact he
 have snoc : ∀ (a' : Int) (zs : List Int),(.own true 1 (intR (a' :: zs) ++ [[dI nd]]) : PV) = mkS 1 (intR ((a' :: zs) ++ [nd])) := fun a' zs => by rw [intR_app]; rfl
 by_cases k6 : k = 6
 ·subst k6
  have e : nodeL n 6 nd = (outsN n nd).map (toN n) ++ [nd] := by rw [nodeL,if_pos rfl]
  rw [e]
  have hne2 : (!((outsN n nd).map (toN n) ++ [nd]).isEmpty) = true := by simp
  rw [if_pos hne2,<- List.append_assoc]
  have hl' := nodes1_loop h hsz nd hne (outsN n nd) 0 acc bx none
  have hlen : (outsN n nd).length <= 1000 := by
   have := idxs_len (fun f : Fl => f.fr == nd) n.flows 0
   simp only [outsN]; omega
  have hloop := fun (c : Box) (hc : c.all (cellLt (bx.length + 1)) = true) => hl' c rfl (by omega) b0 b1 (.inl rfl) hc
  have hO := fun bx : List Box => outs_ev h (by omega) nd bx
  cases ho : (outsN n nd).map (toN n) with
  | nil =>
   rw [ho] at hloop
   cases acc with
   | nil => exact es (nodes1_k6_0 oF oN (mkD_is _ _) oK oL hl0 hl b0 b1 hO hloop)
   | cons a' zs =>
    rw [List.append_nil,<- snoc]
    exact es (nodes1_k6_1 (acc := intR (a' :: zs)) oF oN (mkD_is _ _) oK oL hl0 hl hks b0 b1 hO hloop)
  | cons o os =>
   rw [ho] at hloop
   have hne3 : ∃ z zs,acc ++ o :: os = z :: zs := by cases acc <;> simp
   obtain ⟨z,zs,hz⟩ := hne3
   have hu : ∀ lo,upd bx l acc (o :: os) = bx.set l [.own true 1 (intR (acc ++ o :: os))] /\ updL lo l (o :: os) = some l := fun lo => by
    refine ⟨?_,by simp [updL]⟩
    unfold upd; rw [hz]; rfl
   have hol : (o :: os).length <= 1000 := by rw [<- ho,List.length_map]; exact hlen
   rw [(hu none).1,(hu none).2] at hloop
   have := nodes1_k6_2 (u := mkS 1 (intR acc)) (acc2 := intR (acc ++ o :: os)) (a := a) oF oN (mkD_is _ _) oK oL hl0 hl (by rw [intR_len,List.length_append]; omega) b0 b1 hO hloop
   rw [hz,snoc] at this
   rw [hz]
   exact es this
 ·by_cases k2 : k = 2
  ·subst k2
   refine one _ rfl (by rw [nodeL,if_neg (by decide),if_pos (by decide)]) ?_
   cases acc with
   | nil => exact es (nodes1_k2_0 oK oL hl0 hl b1)
   | cons a' zs => rw [<- snoc]; exact es (nodes1_k2_1 (acc := intR (a' :: zs)) oK oL hl0 hl hks b1)
  by_cases k4 : k = 4
  ·subst k4
   refine one _ rfl (by rw [nodeL,if_neg (by decide),if_pos (by decide)]) ?_
   cases acc with
   | nil => exact es (nodes1_k4_0 oK oL hl0 hl b1)
   | cons a' zs => rw [<- snoc]; exact es (nodes1_k4_1 (acc := intR (a' :: zs)) oK oL hl0 hl hks b1)
  by_cases k5 : k = 5
  ·subst k5
   refine one _ rfl (by rw [nodeL,if_neg (by decide),if_pos (by decide)]) ?_
   cases acc with
   | nil => exact es (nodes1_k5_0 oK oL hl0 hl b1)
   | cons a' zs => rw [<- snoc]; exact es (nodes1_k5_1 (acc := intR (a' :: zs)) oK oL hl0 hl hks b1)
  by_cases k7 : k = 7
  ·subst k7
   refine one _ rfl (by rw [nodeL,if_neg (by decide),if_pos (by decide)]) ?_
   cases acc with
   | nil => exact es (nodes1_k7_0 oK oL hl0 hl b1)
   | cons a' zs => rw [<- snoc]; exact es (nodes1_k7_1 (acc := intR (a' :: zs)) oK oL hl0 hl hks b1)
  by_cases k8 : k = 8
  ·subst k8
   refine one _ rfl (by rw [nodeL,if_neg (by decide),if_pos (by decide)]) ?_
   cases acc with
   | nil => exact es (nodes1_k8_0 oK oL hl0 hl b1)
   | cons a' zs => rw [<- snoc]; exact es (nodes1_k8_1 (acc := intR (a' :: zs)) oK oL hl0 hl hks b1)
  ·have e : nodeL n k nd = [] := by rw [nodeL,if_neg k6,if_neg (by simp [k2,k4,k5,k7,k8])]
   rw [e,if_neg (by simp)]
   exact es (nodes1_o oK oL hl0 hl (by simpa using k6) (by simpa using k2) (by simpa using k4) (by simpa using k5) (by simpa using k7) (by simpa using k8))
theorem nodesB_len {n : Nt} (hf : n.flows.length <= 1000) : ∀ b : Blk,((nodesB n b).length : Int) <= 1001 * sizeB b
 | .mk k nd a ks ls => by
  have h1 := nodeL_len hf k nd
  have h2 := go ks
  rw [nodesB,sizeB,List.length_append]
  omega
where
 go : ∀ bs : List Blk,((nodesB.go n bs).length : Int) <= 1001 * sizeB.go bs
 | [] => by rw [nodesB.go,sizeB.go]; simp
 | b :: bs => by
  have h1 := nodesB_len hf b
  have h2 := go bs
  rw [nodesB.go,sizeB.go,List.length_append]
  omega
theorem cap_two {l l0 m : Nat} (h0 : l0 < m) (h : l < m) : ([l0,l].all fun l => decide (l < m + 1)) = true := by
 simp; omega
theorem eachN_ev {n : Nt} {N F : D} (h : IsN n N F) (hsz : n.flows.length <= 1000) {l l0 : Nat} (hne : l ≠ l0) : ∀ (b : Blk) {k nd a : Int} {K L : D} {bx : List Box} {acc : List Int},IsB b k nd a K L -> (acc.length : Int) + 1001 * sizeB b <= 1000000000 →
  bx[l0]? = some (Nb N F) -> bx[l]? = some [mkS 1 (intR acc)] →
  ev cfg (.call 76 [Wq k nd a K L,.clo 77 [l0,l]] bx) = some (.ret (.tup []) (if (!(nodesB n b).isEmpty) = true then some ⟨bx.set l [mkS 1 (intR (acc ++ nodesB n b))],l,false⟩ else none))
 | .mk _ _ _ ks ls,k,nd,a,K,L,bx,acc,hB,hs,b0,b1 => by
  rw [IsB] at hB
  obtain ⟨rfl,rfl,rfl,_,_,_,rows,hK,hks,hmax,hL,_,_⟩ := hB
  have oK : Oq K := by obtain ⟨_,_,_,h3⟩ := hK; exact h3
  have oL : Oq L := by obtain ⟨_,_,_,h3⟩ := hL; exact h3
  have hl0 : l0 < bx.length := (gsi.1 b0).1
  have hl : l < bx.length := (gsi.1 b1).1
  rw [sizeB] at hs
  have hp := sizeB_pos.go ks
  have hnl := nodeL_len hsz k nd
  have := eachc_f (u := [mkS 1 (intR (acc ++ nodeL n k nd))]) (u2 := [mkS 1 (intR (acc ++ nodesB n (.mk k nd a ks ls)))]) (k := k) (n := nd) (a := a) (bx := bx) (!(nodeL n k nd).isEmpty) (!(nodesB n (.mk k nd a ks ls)).isEmpty) (cap_two hl0 hl) hK hL hl (g := 77)
   (fun r => by
    have h1 := nodes1_ev h hsz (k := k) (nd := nd) (a := a) oK oL (bx := bx ++ [r]) (l := l) (l0 := l0) (acc := acc) (by omega) (by rw [get_old hl0]; exact b0) (by rw [get_old hl]; exact b1)
    rw [set_old hl] at h1
    exact h1)
   (fun c hc => by
    have h1 := loop ks (bx := upd bx l acc (nodeL n k nd)) (acc := acc ++ nodeL n k nd) (i := 0) (c := c) hK rfl hks (by rw [isBs_len hks]; exact hmax) (by rw [List.length_append]; push_cast; omega) (upd_ne hne b0 _ _) (upd_get b1 _) (by rw [upd_len]; exact hc) (updL none l (nodeL n k nd)) (by unfold updL; split <;> simp)
    rw [upd_len,upd_upd,updL_updL] at h1
    rw [nodesB]
    exact h1)
  exact es this
where
 loop : ∀ (bs : List Blk) {rows rs : List (List D)} {K : D} {acc : List Int} {i : Nat} {bx : List Box} {c : Box},IsS 5 rows K -> rows.drop i = rs -> IsB.IsBs bs rs -> rows.length < 9223372036854775808 -> (acc.length : Int) + 1001 * sizeB.go bs <= 1000000000 →
  bx[l0]? = some (Nb N F) -> bx[l]? = some [mkS 1 (intR acc)] -> c.all (cellLt (bx.length + 1)) = true -> ∀ lo : Option Nat,lo = none ∨ lo = some l →
  ev cfg (.loop 76 3 ⟨(sh76_3 (.clo 77 [l0,l]) (.dat K) (I rows.length) (I i)),bx ++ [c],bx.length,lo,false⟩) = some (.loop (.exit 0) ⟨(se76_3),upd bx l acc (nodesB.go n bs) ++ [c],bx.length,updL lo l (nodesB.go n bs),false⟩)
 | [],rows,rs,K,acc,i,bx,c,hK,hr,hbs,hmax,hs,b0,b1,hc,lo,hlo => by
  have hl0 : l0 < bx.length := (gsi.1 b0).1
  have hl : l < bx.length := (gsi.1 b1).1
  rw [IsB.IsBs] at hbs
  subst hbs
  rw [nodesB.go]
  obtain ⟨_,_,_,h3⟩ := hK
  exact es (eachc_end (cap_two hl0 hl) hc (drop_nil hr) lo h3)
 | b :: bs,rows,rs,K,acc,i,bx,c,hK,hr,hbs,hmax,hs,b0,b1,hc,lo,hlo => by
  have hl0 : l0 < bx.length := (gsi.1 b0).1
  have hl : l < bx.length := (gsi.1 b1).1
  rw [IsB.IsBs] at hbs
  obtain ⟨k,nd,a,K',L',rest,rfl,hB,hrest⟩ := hbs
  obtain ⟨hget,hr',hlt⟩ := drop_cons hr
  rw [sizeB.go] at hs
  have hp := sizeB_pos.go bs
  have hp2 := sizeB_pos b
  have hbl := nodesB_len hsz b
  have h1 := eachc_round (g := 77) (cap := [l0,l]) (u := [mkS 1 (intR (acc ++ nodesB n b))]) (cap_two hl0 hl) hK hl hc hget hlt hmax (isB_one hB).1 (isB_one hB).2 lo hlo (!(nodesB n b).isEmpty) (fun r => by
   have h2 := eachN_ev h hsz hne b (bx := bx ++ [c,r]) (acc := acc) hB (by omega) (by rw [get_old hl0]; exact b0) (by rw [get_old hl]; exact b1)
   rw [set_old hl] at h2
   exact h2)
  have h2 := loop bs (bx := upd bx l acc (nodesB n b)) (acc := acc ++ nodesB n b) (i := i + 1) (c := c) hK hr' hrest hmax (by rw [List.length_append]; push_cast; omega) (upd_ne hne b0 _ _) (upd_get b1 _) (by rw [upd_len]; exact hc) (updL lo l (nodesB n b)) (by unfold updL; split; exact .inr rfl; exact hlo)
  rw [upd_len,upd_upd,updL_updL] at h2
  rw [nodesB.go]
  exact es (h1.trans h2)
theorem intRows_intR : ∀ zs : List Int,intRows (intR zs) = some zs
 | [] => rfl
 | z :: zs => by
  have : intR (z :: zs) = [dI z] :: intR zs := rfl
  rw [this,intRows,intRow,seqO_some,intRows_intR zs]; rfl
theorem nodes_ev {n : Nt} {N F : D} (h : IsN n N F) (hsz : n.flows.length <= 1000) (b : Blk) {k nd a : Int} {K L : D} (hB : IsB b k nd a K L) (hz : sizeB b <= 1000) (bx : List Box) :
  ev cfg (.call 44 [Nq N F,Wq k nd a K L] bx) = Rq (mkS 1 (intR (sortI (nodesB n b)))) := by
 obtain ⟨oN,oF⟩ := isN_one h
 obtain ⟨oK,oL⟩ := isB_one hB
 have he := eachN_ev h hsz (l := bx.length + 2) (l0 := bx.length) (by omega) b (bx := bx ++ [Nb N F,Wx k nd a K L,[.dat .nil]]) (acc := []) hB (by simp; omega) (by rw [app_get0]; rfl) (by rw [app_get]; rfl)
 have hlen := nodesB_len hsz b
 cases hnb : nodesB n b with
 | nil =>
  rw [hnb] at he
  rw [show sortI ([] : List Int) = [] by simp [sortI]]
  exact es (nodes_f0 oK oL oF oN he)
 | cons z zs =>
  rw [hnb,if_pos (by simp)] at he
  rw [app_set] at he
  rw [hnb] at hlen
  have hs : ∃ y ys,sortI (z :: zs) = y :: ys := by
   have : (sortI (z :: zs)).length = (z :: zs).length := List.length_mergeSort ..
   cases hq : sortI (z :: zs) with
   | nil => rw [hq] at this; simp at this
   | cons y ys => exact ⟨y,ys,rfl⟩
  have := nodes_f1 (k := k) (n := nd) (a := a) (bx := bx) (acc := intR (z :: zs)) (zs := z :: zs) (intRows_intR _) (by omega) oK oL oF oN he
  obtain ⟨y,ys,hy⟩ := hs
  rw [hy] at this ⊢
  exact es this
end Go.Proofs.YtifckjhggamefaaGreatDoor
