/- What the folder's closed answers, joined. No condition. -/
import Derived.Test.YtifckjhggamefaaGreatDoorGs
import Derived.Test.YtifckjhggamefaaGreatDoorGt
import Derived.Test.YtifckjhggamefaaGreatDoorGn
set_option linter.unusedSimpArgs false
set_option linter.unusedVariables false
set_option linter.unusedSectionVars false
namespace Go.Proofs.YtifckjhggamefaaGreatDoor
open Go Go.Vx
set_option maxRecDepth 10000
set_option maxHeartbeats 1000000
section
variable {n : Nt} {w : Wb} {bx : List Box} {l : Nat} {N F : D}
def okC (n : Nt) (w : Wb) (s : Nat) (jn t : Int) : Bool := decide (t >= 0) && (t != (s : Int) && (((gkW n w t == jn) && (decide (((outsW w.ls t).length : Int) > 1) == false)) && ((insW w.ls t).length == (outsW w.ls s).length)))
theorem joinOf_ne (k : Int) : joinOf k ≠ 0 := by unfold joinOf; split <;> decide
theorem close_eq (hG : Gates n) (hw : InvW n w) {s qz : Nat} {qr : List Nat} (hQ : outsW w.ls s = qz :: qr) (hk : gkW n w s ≠ 0) (h2 : 2 <= (outsW w.ls s).length) :
  closeAt n w s = if (((outsW w.ls s).all fun q => (followW w qz).to == (followW w q).to) && (okC n w s (joinOf (gkW n w s)) (followW w qz).to && (gkW n w s != 7 || (outsW w.ls s).all (awaitK n w)))) = true then some (followW w qz).to else none := by
 have hhd : hd (outsW w.ls s) = qz := by rw [hQ]; rfl
 unfold closeAt
 simp only [hhd]
 have hone : (followW w qz).to >= 0 -> gkW n w (followW w qz).to ≠ 0 -> ((outsW w.ls (followW w qz).to).length = 1 ↔ ¬ ((outsW w.ls (followW w qz).to).length : Int) > 1) := fun h0 hg => by
  obtain ⟨j, hj⟩ : ∃ j : Nat, (followW w qz).to = j := ⟨(followW w qz).to.toNat, by omega⟩
  rw [hj] at hg ⊢
  obtain ⟨_, _, _, _, _, _, _, _, hc⟩ := gate_ok hG hw hg
  omega
 have hwl : (waysW w s).length = (outsW w.ls s).length := by simp [waysW]
 generalize ht : (followW w qz).to = t at *
 by_cases hA : (((outsW w.ls s).all fun q => t == (followW w q).to) && (okC n w s (joinOf (gkW n w s)) t && (gkW n w s != 7 || (outsW w.ls s).all (awaitK n w)))) = true
 ·rw [if_pos hA]
  simp only [okC, Bool.and_eq_true, dqE, bne_iff_ne, ne_eq, beq_iff_eq, Bool.or_eq_true, List.all_eq_true, decide_eq_false_iff_not] at hA
  obtain ⟨a1, ⟨a2, a3, ⟨a4, a5⟩, a6⟩, a7⟩ := hA
  have hg0 : gkW n w t ≠ 0 := by rw [a4]; exact joinOf_ne _
  rw [if_neg, if_pos]
  ·simp only [Bool.and_eq_true, List.all_eq_true, beq_iff_eq, Bool.or_eq_true, bne_iff_ne, ne_eq]
   refine ⟨fun x hx => ?_, a7⟩
   obtain ⟨q, hq, rfl⟩ := List.mem_map.1 hx
   exact (a1 q hq).symm
  ·simp only [Bool.or_eq_true, beq_iff_eq, dqE, bne_iff_ne, ne_eq, not_or, Decidable.not_not, Nat.not_lt]
   exact ⟨⟨hk, by rw [hwl]; exact h2⟩, ⟨⟨⟨by omega, a3⟩, a4⟩, (hone a2 hg0).2 a5⟩, by rw [hwl]; exact a6⟩
 ·rw [if_neg hA]
  split
  ·rfl
  ·rename_i hc
   rw [if_neg]
   intro hd2
   apply hA
   simp only [Bool.or_eq_true, beq_iff_eq, dqE, bne_iff_ne, ne_eq, not_or, Decidable.not_not, Nat.not_lt] at hc
   obtain ⟨⟨c1, c2⟩, ⟨⟨⟨c3, c4⟩, c5⟩, c5b⟩, c6⟩ := hc
   simp only [Bool.and_eq_true, List.all_eq_true, beq_iff_eq, Bool.or_eq_true, bne_iff_ne, ne_eq] at hd2
   have hg0 : gkW n w t ≠ 0 := by rw [c5]; exact joinOf_ne _
   simp only [okC, Bool.and_eq_true, dqE, bne_iff_ne, ne_eq, beq_iff_eq, Bool.or_eq_true, List.all_eq_true, decide_eq_false_iff_not]
   exact ⟨fun q hq => (hd2.1 _ (List.mem_map.2 ⟨q, hq, rfl⟩)).symm, ⟨by omega, c4, ⟨c5, (hone (by omega) hg0).1 c5b⟩, by rw [<- hwl]; exact c6⟩, hd2.2⟩
theorem set_app {bx : List Box} {l : Nat} {c : Box} {r : List Box} (hl : l < bx.length) : (bx ++ r).set l c = bx.set l c ++ r := by
 rw [List.set_append_left _ _ hl]
theorem closed_at (hG : Gates n) (hN : IsN n N F) (hw : InvW n w) (hB : FB bx l N F w) {s : Nat} (hs : s < w.ks.length) :
  match twoAt n w s with
  | none => Jq (.loop 63 2 (q0 bx (sh63_2 (.ptr l 0) (I (cB.cBs w.ks).length) (I s)))) = ev cfg (.loop 63 2 (q0 bx (sh63_2 (.ptr l 0) (I (cB.cBs w.ks).length) (I ((s + 1 : Nat) : Int)))))
  | some x => Jq (.loop 63 2 (q0 bx (sh63_2 (.ptr l 0) (I (cB.cBs w.ks).length) (I s)))) = some (.loop .ret ⟨(se63_2 (B true)), bx.set l (fbox N F x), bx.length, some l, false⟩) := by
 have hlens := hw.lens
 have hkl : (cB.cBs w.ks).length = w.ks.length := cBs_len _
 have hlt : s < (cB.cBs w.ks).length := by rw [hkl]; exact hs
 have hmax : (cB.cBs w.ks).length < 9223372036854775808 := by rw [hkl]; omega
 have hsi : (s : Int) < w.ks.length := by omega
 have h6 := isW_ev (kd := 6) hN hw hB.lt hB.get hsi (by decide) true
 have h5 := isW_ev (kd := 5) hN hw hB.lt hB.get hsi (by decide) true
 have h7 := isW_ev (kd := 7) hN hw hB.lt hB.get hsi (by decide) true
 have htw : twoAt n w s = match closeAt n w s with
  | none => none
  | some j => some (dropW ⟨w.ks.set s (.mk (blockOf (gkW n w s)) (nodeW w.ks s) 0 ((waysW w s).map (pieceW w (gkW n w s))) []), setFrom w.ls (hd (outsW w.ls j)) s⟩ (j :: ((waysW w s).map (·.by_)).filter fun x => decide (0 <= x)) (outsW w.ls s ++ (waysW w s).map (·.last))) := by
  unfold twoAt
  cases closeAt n w s <;> rfl
 by_cases hA : gkW n w s ≠ 0 /\ 2 <= (outsW w.ls s).length
 case neg =>
  have hcn : closeAt n w s = none := by
   unfold closeAt
   simp only
   rw [if_pos]
   simp only [Bool.or_eq_true, beq_iff_eq, dqE, waysW, List.length_map]
   omega
  rw [htw, hcn]
  have hf : ∀ kd : Int, kd ≠ 0 -> ((gkW n w s == kd) && (decide (((outsW w.ls s).length : Int) > 1) == true)) = false := fun kd hkd => by
   by_cases h0 : gkW n w s = 0
   ·rw [h0, show ((0 : Int) == kd) = false from beq_eq_false_iff_ne.2 (Ne.symm hkd)]; rfl
   ·have : decide (((outsW w.ls s).length : Int) > 1) = false := dqf (by omega)
    rw [this]; simp
  rw [hf 6 (by decide)] at h6
  rw [hf 5 (by decide)] at h5
  rw [hf 7 (by decide)] at h7
  exact fclosed_none hB.lt hB.get hlt hmax h6 h5 h7
 obtain ⟨hk, h2⟩ := hA
 obtain ⟨b, hb, hgs, hb8, hnode, hgk, hnr, hkn, _⟩ := gate_ok hG hw hk
 rw [<- hgk] at hkn
 have hdec : decide (((outsW w.ls s).length : Int) > 1) = true := dqt (by omega)
 rw [hdec] at h6 h5 h7
 simp only [beq_self_eq_true, Bool.and_true] at h6 h5 h7
 obtain ⟨qz, qr, hQ⟩ : ∃ qz qr, outsW w.ls s = qz :: qr := by
  cases h : outsW w.ls s with
  | nil => rw [h] at h2; simp at h2
  | cons q qr => exact ⟨q, qr, rfl⟩
 have hce := close_eq hG hw hQ hk h2
 have hq0 : qz < w.ls.length := (outsW_lt (by rw [hQ]; exact mcs)).1
 have hcl := closing_ev hN hw hB hs hQ (joinOf_ne (gkW n w s)) (to_lt hw hq0)
 have hokc : (decide ((followW w qz).to >= 0) && ((followW w qz).to != (s : Int) && (((gkW n w (followW w qz).to == joinOf (gkW n w s)) && (decide (((outsW w.ls (followW w qz).to).length : Int) > 1) == false)) && ((insW w.ls (followW w qz).to).length == (outsW w.ls s).length)))) = okC n w s (joinOf (gkW n w s)) (followW w qz).to := rfl
 rw [hokc] at hcl
 rw [htw, hce]
 cases hall : (outsW w.ls s).all fun q => (followW w qz).to == (followW w q).to with
 | false =>
  rw [hall] at hcl
  simp only [Bool.false_eq_true, if_false] at hcl
  rw [Bool.false_and, if_neg fnt]
  rcases hkn with e | e | e <;> rw [e] at h6 h5 h7 hcl
  ·exact fclosed_alt_no0 hB.lt hB.get hlt hmax h6 h5 hcl
  ·exact fclosed_par_no0 hB.lt hB.get hlt hmax h6 hcl
  ·exact fclosed_pick_no0 hB.lt hB.get hlt hmax h6 h5 h7 hcl
 | true =>
 rw [hall] at hcl
 simp only [if_true] at hcl
 rw [Bool.true_and]
 cases hok : okC n w s (joinOf (gkW n w s)) (followW w qz).to with
 | false =>
  rw [hok] at hcl
  rw [Bool.false_and, if_neg fnt]
  rcases hkn with e | e | e <;> rw [e] at h6 h5 h7 hcl
  ·exact fclosed_alt_no1 hB.lt hB.get hlt hmax h6 h5 hcl
  ·exact fclosed_par_no1 hB.lt hB.get hlt hmax h6 hcl
  ·exact fclosed_pick_no1 hB.lt hB.get hlt hmax h6 h5 h7 hcl
 | true =>
 rw [hok] at hcl
 rw [Bool.true_and]
 have haw := awaited_ev hN hw hB hQ
 by_cases hwt : (gkW n w s != 7 || (outsW w.ls s).all (awaitK n w)) = true
 case neg =>
  rw [if_neg hwt]
  simp only [Bool.or_eq_true, bne_iff_ne, ne_eq, not_or, Decidable.not_not, Bool.not_eq_true] at hwt
  obtain ⟨e, hf⟩ := hwt
  rw [hf] at haw
  rw [e] at h6 h5 h7 hcl
  exact fclosed_pick_aw hB.lt hB.get hlt hmax h6 h5 h7 hcl haw
 rw [if_pos hwt]
 simp only
 have hok' := hok
 simp only [okC, Bool.and_eq_true, dqE, bne_iff_ne, ne_eq, beq_iff_eq] at hok'
 obtain ⟨t0, ts, ⟨tg, tout⟩, _⟩ := hok'
 have htl := to_lt hw hq0
 generalize htq : (followW w qz).to = t at *
 obtain ⟨j, rfl⟩ : ∃ j : Nat, t = j := ⟨t.toNat, by omega⟩
 have hjl : j < w.ks.length := by omega
 have hg0 : gkW n w j ≠ 0 := by rw [tg]; exact joinOf_ne _
 obtain ⟨bj, _, _, _, _, _, _, _, hjc⟩ := gate_ok hG hw hg0
 have hjo1 : (outsW w.ls j).length = 1 := by
  have : ¬ ((outsW w.ls j).length : Int) > 1 := of_decide_eq_false tout
  omega
 have hjo := hd_one hjo1
 have hojl : hd (outsW w.ls j) < w.ls.length := (outsW_lt (hd_mem (by omega))).1
 generalize hd (outsW w.ls j) = oj at *
 have hget2 := lnk_getk hojl
 have hol : (outsW w.ls s).length <= w.ls.length := idxs_len _ _ _
 have hwt7 : gkW n w s = 7 -> ∀ q ∈ outsW w.ls s, awaitK n w q = true := fun h7 q hq => by
  rw [h7] at hwt
  simp only [bne_self_eq_false, Bool.false_or, List.all_eq_true] at hwt
  exact hwt q hq
 have ekd : (blockOf (gkW n w s) == 6) = (gkW n w s == 7) := by
  rcases hkn with e | e | e <;> rw [e] <;> rfl
 have hra := cBs_get hb
 have hwm : (waysW w s).map (pieceW w (gkW n w s)) = (outsW w.ls s).map fun q => pieceW w (gkW n w s) (followW w q) := by rw [waysW, List.map_map]; rfl
 have hbm : ((waysW w s).map (·.by_)).filter (fun x => decide (0 <= x)) = bysF w (outsW w.ls s) := by rw [waysW, List.map_map]; rfl
 have hlm : (waysW w s).map (·.last) = (outsW w.ls s).map fun q => (followW w q).last := by rw [waysW, List.map_map]; rfl
 rw [hwm, hbm, hlm]
 have ho : ∀ r : Box, ev cfg (.call 84 [.ptr l 0, I s] (bx ++ [r])) = Rq (.own true 1 (nR (outsW w.ls s))) := fun r => by
  have hE := hB.ex [r]
  rw [outsW_ev hE.lt hE.get (by omega), hQ]; rfl
 have hin : ∀ v : Bool, _ := fun v : Bool => closed_loop (jj := (j : Int)) (nd := b.nd) (v := v) (kd := blockOf (gkW n w s)) hw hB rfl ekd hwt7 (outsW w.ls s) 0 [] rfl rfl
 simp only [List.map_nil, List.append_nil, List.nil_append] at hin
 have hBd : ∃ P : Blk, P = .mk (blockOf (gkW n w s)) (nodeW w.ks s) 0 ((outsW w.ls s).map fun q => pieceW w (gkW n w s) (followW w q)) [] := ⟨_, rfl⟩
 obtain ⟨P, hP⟩ := hBd
 rw [<- hP]
 have hcP : cB P = [dI (blockOf (gkW n w s)), dI b.nd, dI 0, .sl 5 (cB (pieceW w (gkW n w s) (followW w qz)) :: cB.cBs (qr.map fun q => pieceW w (gkW n w s) (followW w q))), .nil] := by
  rw [hP, cB, hQ, hnode]; rfl
 have hcs : cB.cBs ((outsW w.ls s).map fun q => pieceW w (gkW n w s) (followW w q)) = cB (pieceW w (gkW n w s) (followW w qz)) :: cB.cBs (qr.map fun q => pieceW w (gkW n w s) (followW w q)) := by rw [hQ]; rfl
 rw [hcs] at hin
 have hset : (cB.cBs w.ks).set s [dI (blockOf (gkW n w s)), dI b.nd, dI 0, .sl 5 (cB (pieceW w (gkW n w s) (followW w qz)) :: cB.cBs (qr.map fun q => pieceW w (gkW n w s) (followW w q))), .nil] = cB.cBs (w.ks.set s P) := by rw [<- hcP, cBs_set]
 have hFB1 : FB (bx.set l [.dat N, .dat F, .own true 5 (cB.cBs (w.ks.set s P)), .own true 3 (w.ls.map lnkD)]) l N F ⟨w.ks.set s P, w.ls⟩ := FB.set (w := w) (w' := ⟨w.ks.set s P, w.ls⟩) hB
 have hFB2 : FB (bx.set l [.dat N, .dat F, .own true 5 (cB.cBs (w.ks.set s P)), .own true 3 ((setFrom w.ls oj s).map lnkD)]) l N F ⟨w.ks.set s P, setFrom w.ls oj s⟩ := FB.set (w := w) (w' := ⟨w.ks.set s P, setFrom w.ls oj s⟩) hB
 have ho2 : ∀ r : Box, ev cfg (.call 84 [.ptr l 0, I (j : Nat)] (bx.set l [.dat N, .dat F, .own true 5 (cB.cBs (w.ks.set s P)), .own true 3 (w.ls.map lnkD)] ++ [r])) = Rq (.own true 1 ([dI oj] :: [])) := fun r => by
  have hE := hFB1.ex [r]
  rw [outsW_ev hE.lt hE.get (show w.ls.length <= 1000 by omega), hjo]; rfl
 have hbyl : (bysF w (outsW w.ls s)).length <= (outsW w.ls s).length := by
  have := List.length_filter_le (fun x => decide (0 <= x)) ((outsW w.ls s).map fun q => (followW w q).by_)
  rw [List.length_map] at this
  exact this
 have hdr : ∀ r : Box, ev cfg (.call 93 [.ptr l 0, .dat (.sl 1 (iR ((j : Int) :: bysF w (outsW w.ls s)))), .dat (.sl 1 (nR (outsW w.ls s ++ (outsW w.ls s).map fun q => (followW w q).last)))] (bx.set l [.dat N, .dat F, .own true 5 (cB.cBs (w.ks.set s P)), .own true 3 ((w.ls.map lnkD).set oj [dI (s : Nat), dI (lkW w.ls oj).2.1, dI (lkW w.ls oj).2.2])] ++ [r])) =
   some (.ret (.tup []) (some ⟨bx.set l (fbox N F (dropW ⟨w.ks.set s P, setFrom w.ls oj s⟩ ((j : Int) :: bysF w (outsW w.ls s)) (outsW w.ls s ++ (outsW w.ls s).map fun q => (followW w q).last))) ++ [r], l, false⟩)) := fun r => by
  have hE := hFB2.ex [r]
  have h := dropW_ev (w := ⟨w.ks.set s P, setFrom w.ls oj s⟩) (gone := (j : Int) :: bysF w (outsW w.ls s)) (cut := outsW w.ls s ++ (outsW w.ls s).map fun q => (followW w q).last) (X := .sl 1 (iR ((j : Int) :: bysF w (outsW w.ls s)))) (Z := .sl 1 (nR (outsW w.ls s ++ (outsW w.ls s).map fun q => (followW w q).last))) (by simp only [lls, setFrom_len]; omega) (by
   simp only [lls]
   refine setFrom_rng (fun l hl => ⟨(hw.rng l hl).1, (hw.rng l hl).2.1⟩) fun hk => ⟨?_, (hw.rng _ (mog (lk_of hk))).2.1⟩
   constructor
   ·show (-1 : Int) <= (s : Int); omega
   ·show (s : Int) < _; omega) hE.lt hE.get ⟨1, rfl, by simp, rfl⟩ ⟨1, rfl, by simp, rfl⟩ (by simp; omega)
  rw [setFrom_map] at h
  rw [h, set_app (by simpa using hB.lt), List.set_set]
 rw [<- hset] at ho2 hdr
 have hnd : ∃ k nn a K L, cB b = [dI k, dI nn, dI a, K, L] /\ nn = b.nd := by
  obtain ⟨k, nn, a, ks, ls⟩ := b; exact ⟨k, nn, a, _, _, rfl, rfl⟩
 obtain ⟨bk, bn, ba, bK, bL, hcb, rfl⟩ := hnd
 rw [hcb] at hra
 rcases hkn with e | e | e <;> rw [e] at h6 h5 h7 hcl hin ho2 hdr
 ·exact fclosed_alt (jj := (j : Int)) hB.lt hB.get hlt hmax h6 h5 hcl hra ho (hin true) ho2 hget2 hdr
 ·exact fclosed_par (jj := (j : Int)) hB.lt hB.get hlt hmax h6 hcl hra ho (hin true) ho2 hget2 hdr
 ·have hwq : (outsW w.ls s).all (awaitK n w) = true := List.all_eq_true.2 (hwt7 e)
  rw [hwq] at haw
  exact fclosed_pick (jj := (j : Int)) hB.lt hB.get hlt hmax h6 h5 h7 hcl haw hra ho (hin false) ho2 hget2 hdr
theorem closed_ev (hG : Gates n) (hN : IsN n N F) (hw : InvW n w) (hB : FB bx l N F w) :
  ev cfg (.call 63 [.ptr l 0] bx) = match firstAt (twoAt n w) 0 w.ks.length with
   | none => (Rq (B false))
   | some x => some (.ret (B true) (some ⟨bx.set l (fbox N F x), l, false⟩)) := by
 have hkl : (cB.cBs w.ks).length = w.ks.length := cBs_len _
 have loop : ∀ (m i : Nat), i + m = w.ks.length -> ev cfg (.loop 63 2 (q0 bx (sh63_2 (.ptr l 0) (I (cB.cBs w.ks).length) (I i)))) = match firstAt (twoAt n w) i m with
   | none => some (.loop (.exit 0) (q0 bx (se63_2 .dead)))
   | some x => some (.loop .ret ⟨(se63_2 (B true)), bx.set l (fbox N F x), bx.length, some l, false⟩) := by
  intro m
  induction m with
  | zero =>
   intro i hi
   exact es (fclosed_end hB.lt (by rw [hkl]; omega))
  | succ m ih =>
   intro i hi
   have h := closed_at hG hN hw hB (s := i) (by omega)
   rw [firstAt]
   cases ho : twoAt n w i with
   | none =>
    rw [ho] at h
    have h2 := ih (i + 1) (by omega)
    rw [<- h] at h2
    simp only
    cases hf : firstAt (twoAt n w) (i + 1) m <;> (rw [hf] at h2; exact es h2)
   | some x =>
    rw [ho] at h
    exact es h
 have h := loop w.ks.length 0 (Nat.zero_add _)
 cases hf : firstAt (twoAt n w) 0 w.ks.length with
 | none => rw [hf] at h; exact es (fclosed_f hB.lt hB.get h)
 | some x => rw [hf] at h; exact es (fclosed_t hB.lt hB.get h)
end
def isEnd (x : Nd) : Bool := x.k == 1 || x.k == 2
def goneN (n : Nt) (i : Nat) : Bool := match n.nodes[i]? with
 | some x => isEnd x
 | none => false
def beginB (i : Nat) (x : Nd) : Blk := .mk (if x.k = 5 ∨ x.k = 6 ∨ x.k = 7 then 8 else 2) i 0 [] []
def allB : Nat -> List Nd -> List Blk
 | _, [] => []
 | i, x :: xs => beginB i x :: allB (i + 1) xs
def placeN (n : Nt) (p : Nat) : Int := if goneN n p = true then -1 else rank (goneN n) p
def beginL (n : Nt) : Nat -> List Fl -> List Lk
 | _, [] => []
 | i, f :: fs => (placeN n f.fr.toNat, placeN n f.to.toNat, (i : Int)) :: beginL n (i + 1) fs
def beginW (n : Nt) : Wb := ⟨dropK (goneN n) 0 (allB 0 n.nodes), beginL n 0 n.flows⟩
theorem allB_get : ∀ {xs : List Nd} {i j : Nat} {b : Blk}, (allB i xs)[j]? = some b -> ∃ x, xs[j]? = some x /\ b = beginB (i + j) x
 | [], i, j, b, h => by simp [allB] at h
 | x :: xs, i, 0, b, h => by
  simp [allB] at h
  exact ⟨x, rfl, h.symm⟩
 | x :: xs, i, j + 1, b, h => by
  rw [allB, List.getElem?_cons_succ] at h
  obtain ⟨y, h1, h2⟩ := allB_get h
  exact ⟨y, by simpa using h1, by rw [h2, show i + (j + 1) = i + 1 + j by omega]⟩
theorem allB_len : ∀ {xs : List Nd} {i : Nat}, (allB i xs).length = xs.length
 | [], i => rfl
 | x :: xs, i => by rw [allB, List.length_cons, List.length_cons, allB_len]
theorem allB_size : ∀ {xs : List Nd} {i : Nat}, sizeW (allB i xs) = xs.length
 | [], i => rfl
 | x :: xs, i => by
  have := allB_size (xs := xs) (i := i + 1)
  rw [allB, sizeW, szB.szBs, List.length_cons]
  rw [sizeW] at this
  rw [this, beginB, szB, szB.szBs]
  omega
theorem beginL_len (n : Nt) : ∀ {fs : List Fl} {i : Nat}, (beginL n i fs).length = fs.length
 | [], i => rfl
 | f :: fs, i => by rw [beginL, List.length_cons, List.length_cons, beginL_len n]
theorem beginL_mem (n : Nt) : ∀ {fs : List Fl} {i : Nat} {l : Lk}, l ∈ beginL n i fs -> ∃ k f, fs[k]? = some f /\ l = (placeN n f.fr.toNat, placeN n f.to.toNat, ((i + k : Nat) : Int))
 | [], i, l, h => by simp [beginL] at h
 | f :: fs, i, l, h => by
  rw [beginL] at h
  rcases List.mem_cons.1 h with rfl | h
  ·exact ⟨0, f, rfl, rfl⟩
  ·obtain ⟨k, g, h1, h2⟩ := beginL_mem n h
   exact ⟨k + 1, g, by simpa using h1, by rw [h2, show i + 1 + k = i + (k + 1) by omega]⟩
theorem idxs_begin (n : Nt) {p' : Lk -> Bool} {p : Fl -> Bool} : ∀ {fs : List Fl} {i c : Nat}, (∀ f ∈ fs, ∀ k : Nat, p' (placeN n f.fr.toNat, placeN n f.to.toNat, (k : Int)) = p f) -> idxs p' c (beginL n i fs) = idxs p c fs
 | [], i, c, _ => rfl
 | f :: fs, i, c, h => by
  rw [beginL, idxs, idxs, h f mcs i, idxs_begin n fun g hg => h g (mcm _ hg)]
theorem place_eq {n : Nt} {x : Int} {p : Nat} (hx : 0 <= x) (hp : goneN n p = false) : (placeN n x.toNat == ((rank (goneN n) p : Nat) : Int)) = (x == (p : Int)) := by
 rw [placeN]
 split
 ·rename_i hg
  have e1 : ((-1 : Int) == ((rank (goneN n) p : Nat) : Int)) = false := beq_eq_false_iff_ne.2 (by omega)
  have e2 : (x == (p : Int)) = false := beq_eq_false_iff_ne.2 fun e => by
   have : x.toNat = p := by omega
   rw [this, hp] at hg; cases hg
  rw [e1, e2]
 ·rename_i hg
  rw [Bool.not_eq_true] at hg
  by_cases e : x = p
  ·have : x.toNat = p := by omega
   rw [this, e]; simp
  ·have e1 : (((rank (goneN n) x.toNat : Nat) : Int) == ((rank (goneN n) p : Nat) : Int)) = false := beq_eq_false_iff_ne.2 fun h => e (by have := rank_inj hg hp (by omega); omega)
   rw [e1, beq_eq_false_iff_ne.2 e]
theorem place_rng {n : Nt} {x : Int} (hx : 0 <= x /\ x < n.nodes.length) : -1 <= placeN n x.toNat /\ placeN n x.toNat < (beginW n).ks.length := by
 rw [placeN]
 split
 ·omega
 ·rename_i hg
  rw [Bool.not_eq_true] at hg
  have := rank_lt (bs := allB 0 n.nodes) (gone := goneN n) (x := x.toNat) (by rw [allB_len]; omega) hg
  exact ⟨by omega, by show _ < ((dropK (goneN n) 0 (allB 0 n.nodes)).length : Int); omega⟩
theorem ok_linked {n : Nt} (h : OkN n) {i : Nat} (hi : i < n.nodes.length) : linkedN n i = true := by
 have := h.2.2.2.2.1 i hi
 rw [thirdW] at this
 simp only [Bool.or_eq_false_iff, Bool.not_eq_eq_eq_not, Bool.not_false] at this
 exact this.1
theorem ok_gates {n : Nt} (h : OkN n) : Gates n := by
 refine ⟨h.1, fun v h0 h1 hk => ?_⟩
 obtain ⟨i, rfl⟩ : ∃ i : Nat, v = i := ⟨v.toNat, by omega⟩
 have hl := ok_linked h (i := i) (by omega)
 unfold linkedN at hl
 simp only at hl
 rcases hk with hk | hk | hk <;> rw [hk] at hl
 ·rw [if_neg (by decide), if_neg (by decide), if_neg (by decide), if_pos rfl] at hl
  simp only [Bool.or_eq_true, Bool.and_eq_true, beq_iff_eq, dqE] at hl
  rcases hl with hl | hl
  ·exact .inl ⟨hl.1.1, hl.1.2⟩
  ·exact .inr ⟨hl.1, hl.2, by rw [hk]; decide⟩
 ·rw [if_neg (by decide), if_neg (by decide), if_neg (by decide), if_neg (by decide), if_pos rfl] at hl
  simp only [Bool.or_eq_true, Bool.and_eq_true, beq_iff_eq, dqE] at hl
  rcases hl with hl | hl
  ·exact .inl hl
  ·exact .inr ⟨hl.1, hl.2, by rw [hk]; decide⟩
 ·rw [if_neg (by decide), if_neg (by decide), if_pos rfl] at hl
  simp only [Bool.and_eq_true, beq_iff_eq, dqE] at hl
  exact .inl ⟨hl.1, hl.2.1⟩
theorem ok_ends {n : Nt} (h : OkN n) : Ends n := leads_ends h.2.2.2.1
theorem right_kind {x : Nd} (h : rightN ofT x = true) : 1 <= x.k /\ x.k <= 8 := by
 rw [rightN] at h
 split at h
 ·omega
 ·simp only [Bool.and_eq_true, dqE] at h
  exact h.1
theorem begin_inv {n : Nt} (h : OkN n) : InvW n (beginW n) := by
 have hE := ok_ends h
 refine ⟨fun l hl => ?_, fun i b hb => ?_, ?_, ?_⟩
 ·obtain ⟨k, f, h1, rfl⟩ := beginL_mem n hl
  have hf := hE f (mog h1)
  have hk : k < n.flows.length := (gsi.1 h1).1
  exact ⟨place_rng hf.1, place_rng hf.2, by show (0 : Int) <= ((0 + k : Nat) : Int); omega, by show ((0 + k : Nat) : Int) < _; omega⟩
 ·obtain ⟨x, _, h2, h3, h4⟩ := dropK_get hb
  rw [Nat.sub_zero] at h2
  obtain ⟨nd, h5, rfl⟩ := allB_get h2
  rw [Nat.zero_add]
  have e0 : rank (goneN n) 0 = 0 := rfl
  rw [e0, Nat.zero_add] at h4
  subst h4
  have hxl : x < n.nodes.length := (gsi.1 h5).1
  have c1 : insW (beginW n).ls (rank (goneN n) x : Nat) = insN n x := idxs_begin n fun f hf k => place_eq (hE f hf).2.1 h3
  have c2 : outsW (beginW n).ls (rank (goneN n) x : Nat) = outsN n x := idxs_begin n fun f hf k => place_eq (hE f hf).1.1 h3
  rw [c1, c2]
  have hkd : kindN n x = nd.k := by
   rw [kind_at hxl]
   rw [gge hxl] at h5
   rw [sij h5]
  have hne : nd.k ≠ 1 /\ nd.k ≠ 2 := by
   rw [goneN, h5] at h3
   simpa [isEnd] using h3
  have hrk := right_kind (h.2.2.1 nd (mog h5))
  have hn24 := h.1
  by_cases hg : nd.k = 5 ∨ nd.k = 6 ∨ nd.k = 7
  ·have eB : beginB x nd = .mk 8 x 0 [] [] := by rw [beginB, if_pos hg]
   rw [eB]
   refine ⟨by rw [okK, okK.okKs]; simp; omega, by simp [Blk.kd], fun _ => ⟨⟨by show (0 : Int) <= (x : Int); omega, by show (x : Int) < _; omega⟩, by show kindN n x = 5 ∨ kindN n x = 6 ∨ kindN n x = 7; rw [hkd]; exact hg, rfl, rfl⟩, fun h8 => absurd rfl h8, fun h3 => by simp [Blk.kd] at h3⟩
  ·have eB : beginB x nd = .mk 2 x 0 [] [] := by rw [beginB, if_neg hg]
   rw [eB]
   have hl := ok_linked h hxl
   unfold linkedN at hl
   simp only [hkd] at hl
   rw [if_neg hne.1, if_neg hne.2, if_neg (by omega), if_neg (by omega), if_neg (by omega)] at hl
   simp only [Bool.and_eq_true, beq_iff_eq] at hl
   exact ⟨by rw [okK, okK.okKs]; simp; omega, by simp [Blk.kd], fun h8 => by simp [Blk.kd] at h8, fun _ => hl, fun h3 => by simp [Blk.kd] at h3⟩
 ·have h1 := dropK_size (gone := goneN n) (bs := allB 0 n.nodes) (i := 0)
  rw [allB_size] at h1
  have h2 := beginL_len n (fs := n.flows) (i := 0)
  have := h.1
  have := h.2.1
  show sizeW (dropK (goneN n) 0 (allB 0 n.nodes)) + (beginL n 0 n.flows).length <= 64
  omega
 ·have h1 := dropK_le (gone := goneN n) (bs := allB 0 n.nodes) (i := 0)
  rw [allB_len] at h1
  have h2 := beginL_len n (fs := n.flows) (i := 0)
  have := h.1
  have := h.2.1
  exact ⟨by show (dropK (goneN n) 0 (allB 0 n.nodes)).length <= 24; omega, by show (beginL n 0 n.flows).length <= 40; omega⟩
end Go.Proofs.YtifckjhggamefaaGreatDoor
