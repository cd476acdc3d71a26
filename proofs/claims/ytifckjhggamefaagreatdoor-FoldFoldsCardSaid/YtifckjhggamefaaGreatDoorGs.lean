/- What the reference of layer 11 answers: Ins, Outs, gate, follow, part, has, parts, row. No condition. -/
import Derived.Test.YtifckjhggamefaaGreatDoorGd
import Derived.Test.YtifckjhggamefaaGreatDoorGr
import Derived.Test.YtifckjhggamefaaGreatDoorGh
set_option linter.unusedSimpArgs false
set_option linter.unusedVariables false
set_option linter.unusedSectionVars false
namespace Go.Proofs.YtifckjhggamefaaGreatDoor
open Go Go.Vx
set_option maxRecDepth 10000
set_option maxHeartbeats 1000000
abbrev xW (w : Wb) : PV := Wq 9 0 0 (mkD 5 (cB.cBs w.ks)) (mkD 3 (w.ls.map lnkD))
section
variable {n : Nt} {w : Wb} {N F : D}
theorem xisN_one (hN : IsN n N F) : Oq N /\ Oq F := by
 obtain ⟨nr, fr, ⟨_, _, _, h1⟩, _, _, ⟨_, _, _, h2⟩, _⟩ := hN
 exact ⟨h1, h2⟩
theorem xouts_ev (hlen : w.ls.length <= 1000) (q : Int) (bx : List Box) : ev cfg (.call 57 [xW w, I q] bx) = Rq (mkS 1 (nR (outsW w.ls q))) := by
 have hll : (w.ls.map lnkD).length = w.ls.length := List.length_map ..
 refine es (xouts_f (mkD_one 5 _) (mkD_isS 3 _) fun c hc => ?_)
 have loop : ∀ (xs : List Lk) (i : Nat) (acc : List Nat), w.ls.drop i = xs -> acc.length <= i -> ev cfg (.loop 57 3 (qs bx (sh57_3 (I q) (mkS 1 (nR acc)) (.dat (mkD 3 (w.ls.map lnkD))) (I (w.ls.map lnkD).length) (I i)) [c])) = some (.loop (.exit 0) (qs bx (se57_3 (mkS 1 (nR (acc ++ idxs (fun l => l.1 == q) i xs)))) [c])) := by
  intro xs
  induction xs with
  | nil =>
   intro i acc hd _
   rw [idxs, List.append_nil]
   exact es (xouts_end (mkD_one 3 _) hc (by rw [hll]; exact drop_nil hd))
  | cons x xs ih =>
   intro i acc hd ha
   obtain ⟨hget, hd', hlt⟩ := drop_cons hd
   rw [idxs]
   cases acc with
   | nil =>
    have hr := xouts_round0 (q := q) (mkD_isS 3 _) hc (lnk_get hget) (by rw [hll]; exact hlt) (by rw [hll]; omega)
    refine es (hr.trans ?_)
    cases hp : (x.1 == q) with
    | true =>
     rw [if_pos rfl, if_pos rfl]
     exact ih (i + 1) [i] hd' (by simp)
    | false =>
     rw [if_neg fnt, if_neg fnt]
     exact ih (i + 1) [] hd' (by simp)
   | cons a acc =>
    have hr := xouts_round1 (q := q) (rs := nR (a :: acc)) (mkD_isS 3 _) hc (lnk_get hget) (by rw [hll]; exact hlt) (by rw [hll]; omega) (by rw [nR_len]; simp at ha ⊢; omega)
    refine es (hr.trans ?_)
    cases hp : (x.1 == q) with
    | true =>
     rw [if_pos rfl, if_pos rfl]
     have := ih (i + 1) (a :: acc ++ [i]) hd' (by simp at ha ⊢; omega)
     rw [nR_app1, mkS_ne (by simp)] at this
     rw [this, List.append_assoc]; rfl
    | false =>
     rw [if_neg fnt, if_neg fnt]
     exact ih (i + 1) (a :: acc) hd' (by omega)
 exact loop w.ls 0 [] rfl (Nat.le_refl _)
theorem xins_ev (hlen : w.ls.length <= 1000) (q : Int) (bx : List Box) : ev cfg (.call 56 [xW w, I q] bx) = Rq (mkS 1 (nR (insW w.ls q))) := by
 have hll : (w.ls.map lnkD).length = w.ls.length := List.length_map ..
 refine es (xins_f (mkD_one 5 _) (mkD_isS 3 _) fun c hc => ?_)
 have loop : ∀ (xs : List Lk) (i : Nat) (acc : List Nat), w.ls.drop i = xs -> acc.length <= i -> ev cfg (.loop 56 3 (qs bx (sh56_3 (I q) (mkS 1 (nR acc)) (.dat (mkD 3 (w.ls.map lnkD))) (I (w.ls.map lnkD).length) (I i)) [c])) = some (.loop (.exit 0) (qs bx (se56_3 (mkS 1 (nR (acc ++ idxs (fun l => l.2.1 == q) i xs)))) [c])) := by
  intro xs
  induction xs with
  | nil =>
   intro i acc hd _
   rw [idxs, List.append_nil]
   exact es (xins_end (mkD_one 3 _) hc (by rw [hll]; exact drop_nil hd))
  | cons x xs ih =>
   intro i acc hd ha
   obtain ⟨hget, hd', hlt⟩ := drop_cons hd
   rw [idxs]
   cases acc with
   | nil =>
    have hr := xins_round0 (q := q) (mkD_isS 3 _) hc (lnk_get hget) (by rw [hll]; exact hlt) (by rw [hll]; omega)
    refine es (hr.trans ?_)
    cases hp : (x.2.1 == q) with
    | true =>
     rw [if_pos rfl, if_pos rfl]
     exact ih (i + 1) [i] hd' (by simp)
    | false =>
     rw [if_neg fnt, if_neg fnt]
     exact ih (i + 1) [] hd' (by simp)
   | cons a acc =>
    have hr := xins_round1 (q := q) (rs := nR (a :: acc)) (mkD_isS 3 _) hc (lnk_get hget) (by rw [hll]; exact hlt) (by rw [hll]; omega) (by rw [nR_len]; simp at ha ⊢; omega)
    refine es (hr.trans ?_)
    cases hp : (x.2.1 == q) with
    | true =>
     rw [if_pos rfl, if_pos rfl]
     have := ih (i + 1) (a :: acc ++ [i]) hd' (by simp at ha ⊢; omega)
     rw [nR_app1, mkS_ne (by simp)] at this
     rw [this, List.append_assoc]; rfl
    | false =>
     rw [if_neg fnt, if_neg fnt]
     exact ih (i + 1) (a :: acc) hd' (by omega)
 exact loop w.ls 0 [] rfl (Nat.le_refl _)
theorem gk_neg {q : Int} (h : q < 0) : gkW n w q = 0 := by
 rw [gkW, gateW, kidW, if_pos h]; rfl
theorem xgate_ev (hN : IsN n N F) (hw : InvW n w) {q : Int} (hq : q < w.ks.length) (bx : List Box) :
  ev cfg (.call 32 [Nq N F, xW w, I q] bx) = Rq (I (gkW n w q)) := by
 obtain ⟨oN, oF⟩ := xisN_one hN
 by_cases h0 : q < 0
 ·rw [gk_neg h0]
  exact es (xgate_neg oN oF (mkD_one 5 _) (mkD_one 3 _) (dqt h0))
 ·obtain ⟨i, rfl⟩ : ∃ i : Nat, q = i := ⟨q.toNat, by omega⟩
  have hi : i < w.ks.length := by omega
  have hgi := gge hi
  have hrow := cBs_get hgi
  cases hg : gateW w.ks i with
  | false =>
   have e : gkW n w i = 0 := by rw [gkW, hg]; rfl
   rw [e]
   rw [gate_iff hgi] at hg
   revert hrow hg
   generalize w.ks[i] = b
   obtain ⟨k, n', a, ks', ls'⟩ := b
   intro hrow hg
   exact es (xgate_no oN oF (mkD_isS 5 _) (mkD_one 3 _) hrow (by rw [bne]; rw [show (k == 8) = false from hg]; rfl))
  | true =>
   have hg' := hg
   rw [gate_iff hgi] at hg
   have h8 : w.ks[i].kd = 8 := by simpa using hg
   obtain ⟨g1, _⟩ := (hw.kid i _ hgi).gate h8
   have hnode : nodeW w.ks i = w.ks[i].nd := by rw [nodeW, kid_nat, hgi]
   obtain ⟨nr, fr, hNr, hnr, _⟩ := hN
   obtain ⟨p, hp⟩ : ∃ p : Nat, w.ks[i].nd = p := ⟨w.ks[i].nd.toNat, by omega⟩
   have hpl : p < n.nodes.length := by omega
   obtain ⟨r, hr1, hr2⟩ := hnr.get hpl
   obtain ⟨_, _, op, m, K, rfl, _⟩ := hr2
   have hkn : kindN n p = n.nodes[p].k := by
    rw [kindN, if_neg (by omega)]
    simp [hpl]
   have e : gkW n w i = n.nodes[p].k := by rw [gkW, hg', if_pos rfl, hnode, hp, hkn]
   rw [e]
   revert hrow hp hg
   generalize w.ks[i] = b
   intro hrow hg hp
   obtain ⟨k, n', a, ks', ls'⟩ := b
   simp only [Blk.nd] at hp
   subst hp
   exact es (xgate_f hNr oF (mkD_isS 5 _) (mkD_one 3 _) hrow hr1 (by rw [bne]; rw [show (k == 8) = true from hg]; rfl))
theorem gk_zero (hw : InvW n w) {q : Int} (hq : q < w.ks.length) : (gkW n w q != 0) = gateW w.ks q := by
 cases hg : gateW w.ks q with
 | false => rw [gkW, hg]; rfl
 | true =>
  by_cases h0 : q < 0
  ·rw [gateW, kidW, if_pos h0] at hg; cases hg
  obtain ⟨i, rfl⟩ : ∃ i : Nat, q = i := ⟨q.toNat, by omega⟩
  have hi : i < w.ks.length := by omega
  have hgi := gge hi
  have h8 : w.ks[i].kd = 8 := by rw [gate_iff hgi] at hg; simpa using hg
  obtain ⟨_, g2, _⟩ := (hw.kid i _ hgi).gate h8
  have hnode : nodeW w.ks i = w.ks[i].nd := by rw [nodeW, kid_nat, hgi]
  rw [gkW, hg, if_pos rfl, hnode]
  rcases g2 with e | e | e <;> rw [e] <;> rfl
theorem outs_one (hw : InvW n w) {b : Nat} (hb : b < w.ks.length) (hg : gateW w.ks b = false) : outsW w.ls b = [hd (outsW w.ls b)] /\ insW w.ls b = [hd (insW w.ls b)] := by
 have hk := (hw.kid b _ (gge hb)).one (by rw [gate_iff (gge hb)] at hg; simpa using hg)
 exact ⟨hd_one hk.2, hd_one hk.1⟩
theorem xfollow_ev (hN : IsN n N F) (hw : InvW n w) {i : Nat} (hi : i < w.ls.length) (bx : List Box) :
  ev cfg (.call 106 [Nq N F, xW w, I i] bx) = Rq (.agg [I (followW w i).to, I (followW w i).by_, I (followW w i).last]) := by
 obtain ⟨oN, oF⟩ := xisN_one hN
 have hlen : w.ls.length <= 1000 := by have := hw.lens; omega
 have hrng := (hw.rng _ (mog (lk_of hi))).2.1
 have hget := lnk_getk hi
 have ht : (lkW w.ls i).2.1 = toW w.ls i := rfl
 rw [ht] at hget hrng
 have hgt := xgate_ev hN hw hrng.2
 have hz := gk_zero hw hrng.2
 rcases follow_cases hw hi with ⟨e, hc⟩ | ⟨b, o, e1, e2, e3, e4, e5, e6⟩
 ·rw [e]
  by_cases h0 : toW w.ls i < 0
  ·exact es (xfollow_neg oN oF (mkD_one 5 _) (mkD_isS 3 _) hget (dqt h0))
  ·have hg := hc.resolve_left h0
   rw [hg] at hz
   exact es (xfollow_gate oN oF (mkD_one 5 _) (mkD_isS 3 _) hget (dqf h0) hgt hz)
 ·rw [e6]
  have hg : gateW w.ks (toW w.ls i) = false := by rw [e1]; exact e3
  rw [hg] at hz
  have ho : Cq 57 [xW w, I (toW w.ls i)] (.own true 1 ([dI o] :: [])) := fun bx => by
   rw [xouts_ev hlen, e1, (outs_one hw e2 e3).1, (e4.outs _).1 (hd_mem (by rw [(outs_one hw e2 e3).1]; exact Nat.one_pos))]
   rfl
  have := xfollow_f (bx := bx) oN oF (mkD_one 5 _) (mkD_isS 3 _) hget (dqf (by omega)) hgt hz ho (lnk_getk e5)
  rw [show (lkW w.ls o).2.1 = toW w.ls o from rfl, e1] at this
  exact es this
theorem xpart_ev {x : Wz} (hx : x.by_ < w.ks.length) (bx : List Box) :
  ev cfg (.call 105 [xW w, Aq x.to x.by_ x.last] bx) = Rq (pB (partW w x)) := by
 rw [partW]
 by_cases h0 : x.by_ < 0
 ·have e : kidW w.ks x.by_ = none := if_pos h0
  rw [e]
  exact es (xpart_neg (mkD_one 5 _) (mkD_one 3 _) (dqt h0))
 ·obtain ⟨i, hi⟩ : ∃ i : Nat, x.by_ = i := ⟨x.by_.toNat, by omega⟩
  rw [hi] at hx ⊢
  have hil : i < w.ks.length := by omega
  have hg := gge hil
  rw [kid_nat, hg]
  have hr := cBs_get hg
  generalize w.ks[i] = b at hr
  obtain ⟨k, n, a, ks', ls'⟩ := b
  exact es (xpart_f (mkD_isS 5 _) (mkD_one 3 _) hr (mkD_one 5 _) (mkD_one 3 _))
theorem xhas_ev {xs : List Int} {X : D} (hX : IsS 1 (iR xs) X) (hlen : xs.length <= 1000) (i : Nat) (bx : List Box) :
  ev cfg (.call 132 [.dat X, I i] bx) = Rq (B (inL xs i)) := by
 have hll : (iR xs).length = xs.length := by simp [iR]
 have oX : Oq X := by obtain ⟨_, _, _, h⟩ := hX; exact h
 have loop : ∀ (ys : List Int) (j : Nat), xs.drop j = ys -> ev cfg (.loop 132 2 (q0 bx (sh132_2 (I i) (.dat X) (I (iR xs).length) (I j)))) =
   if (ys.any fun y => (i : Int) == y) = true then some (.loop .ret (q0 bx (se132_2 (B true)))) else some (.loop (.exit 0) (q0 bx (se132_2 .dead))) := by
  intro ys
  induction ys with
  | nil =>
   intro j hd
   rw [List.any_nil, if_neg fnt]
   exact es (xhas_end oX (by rw [hll]; exact drop_nil hd))
  | cons y ys ih =>
   intro j hd
   obtain ⟨hget, hd', hlt⟩ := drop_cons hd
   have hr := xhas_round (bx := bx) (i := j) (q := (i : Int)) (z := y) hX (by simp [iR, hget]) (by rw [hll]; exact hlt) (by rw [hll]; omega)
   rw [List.any_cons]
   have hs : (y == (i : Int)) = ((i : Int) == y) := by rw [Bool.eq_iff_iff, beq_iff_eq, beq_iff_eq]; exact eq_comm
   rw [hs] at hr
   cases hc : ((i : Int) == y) with
   | true =>
    rw [hc, if_pos rfl] at hr
    rw [Bool.true_or, if_pos rfl]
    exact es hr
   | false =>
    rw [hc, if_neg fnt] at hr
    rw [Bool.false_or]
    have h2 := ih (j + 1) hd'
    split
    ·rename_i hall
     rw [if_pos hall] at h2
     exact es (hr.trans h2)
    ·rename_i hall
     rw [if_neg hall] at h2
     exact es (hr.trans h2)
 have h := loop xs 0 rfl
 rw [inL_any] at h
 cases hc : inL xs i with
 | true =>
  rw [hc, if_pos rfl] at h
  exact es (xhas_y hX h)
 | false =>
  rw [hc, if_neg fnt] at h
  exact es (xhas_n hX h)
theorem xparts_ev (b : Blk) (bx : List Box) : ev cfg (.call 100 [pB b] bx) = Rq (.dat (mkD 5 (cB.cBs (partsB b)))) := by
 obtain ⟨k, n, a, ks, ls⟩ := b
 by_cases h1 : k = 1
 ·subst h1
  exact es (xparts_1 (mkD_one 5 _) (mkD_one 3 _))
 ·by_cases h3 : k = 3
  ·subst h3
   exact es (xparts_3 (mkD_one 5 _) (mkD_one 3 _))
  ·rw [partsB, if_neg h3, if_neg h1]
   exact es (xparts_o (mkD_one 5 _) (mkD_one 3 _) (beq_eq_false_iff_ne.2 h1) (beq_eq_false_iff_ne.2 h3))
theorem xrow_ev {bs : List Blk} {R : D} (hR : R = mkD 5 (cB.cBs bs) ∨ (bs = [] /\ IsS 5 [] R)) (bx : List Box) : ev cfg (.call 101 [.dat R] bx) = Rq (pB (rowB bs)) := by
 match bs, hR with
 | [], hR =>
  have : IsS 5 [] R := by
   rcases hR with rfl | ⟨_, h⟩
   ·exact mkD_isS 5 []
   ·exact h
  exact es (xrow_0 this)
 | [.mk k n a ks ls], hR =>
  have hR : R = _ := hR.resolve_right (fun h => by cases h.1)
  subst hR
  exact es (xrow_1 (mkD_isS 5 (cB.cBs [.mk k n a ks ls])) (mkD_one 5 _) (mkD_one 3 _))
 | b1 :: b2 :: bs, hR =>
  have hR : R = _ := hR.resolve_right (fun h => by cases h.1)
  subst hR
  exact es (xrow_n (mkD_isS 5 (cB b1 :: cB b2 :: cB.cBs bs)))
theorem xcopied_ev (hk : w.ks.length <= 1000) (hl : w.ls.length <= 1000) (bx : List Box) : ev cfg (.call 99 [xW w] bx) = Rq (.bag [I 9, I 0, I 0, mkS 5 (cB.cBs w.ks), mkS 3 (w.ls.map lnkD)]) :=
 es (xcopied_f (by rw [cBs_len]; omega) (by rw [List.length_map]; omega))
end
section
variable {n : Nt} {w : Wb} {bx : List Box} {l : Nat} {N F : D}
def PieceEv (bx : List Box) (l : Nat) (kd : Int) (x : Wz) (P : Blk) : Prop :=
 ((kd == 6) = false /\ ∀ r1 r2 : Box, ev cfg (.call 97 [.ptr l 0, Aq x.to x.by_ x.last] (bx ++ [r1, r2])) = Rq (pB P)) ∨
 ((kd == 6) = true /\ ∃ (p : Blk) (c : List D) (cs : List (List D)), (∀ r1 r2 : Box, ev cfg (.call 97 [.ptr l 0, Aq x.to x.by_ x.last] (bx ++ [r1, r2])) = Rq (pB p)) ∧
  (Cq 92 [pB p] (.dat (.sl 5 (c :: cs)))) /\ Cq 91 [.dat (.sl 5 cs)] (pB P))
theorem fclosed_round {ws gs cs : List (List D)} {kd s jj nd : Int} {v : Bool} {i : Nat} {x : Wz} {P : Blk} {acc : List Blk} (hl : l < bx.length) (hget : ws[i]? = some (wyR x)) (hlt : i < ws.length) (hmax : ws.length < 1000) (hp : PieceEv bx l kd x P) (hcs : cs.length < 10000) (hgs : gs.length < 10000) (hacc : acc.length < 10000) :
  Jq (.loop 63 15 (qs bx (sh63_15 (.ptr l 0) (I s) (I kd) (I jj) (P0 bx) (.own true 1 gs) (.own true 1 cs) (.own v 3 ws) (I ws.length) (I i)) [[I kd, I nd, I 0, mkS 5 (cB.cBs acc), .dat .nil]])) =
   ev cfg (.loop 63 15 (qs bx (sh63_15 (.ptr l 0) (I s) (I kd) (I jj) (P0 bx) (.own true 1 (if 0 <= x.by_ then gs ++ [[dI x.by_]] else gs)) (.own true 1 (cs ++ [[dI x.last]])) (.own v 3 ws) (I ws.length) (I ((i + 1 : Nat) : Int))) [[I kd, I nd, I 0, mkS 5 (cB.cBs (acc ++ [P])), .dat .nil]])) := by
 have h1 : (cs.length + 1) * 8 <= 140737488355328 := by omega
 have h2 : (gs.length + 1) * 8 <= 140737488355328 := by omega
 have h3 : ((cB.cBs acc).length + 1) * 72 <= 140737488355328 := by rw [cBs_len]; omega
 have hm : ws.length < 9223372036854775808 := by omega
 have ea : mkS 5 (cB.cBs (acc ++ [P])) = .own true 5 (cB.cBs acc ++ [cB P]) := by rw [cBs_app]; exact mkS_app 5 _ _
 rw [ea]
 obtain ⟨pk, pn, pa, pks, pls⟩ := P
 rcases hp with ⟨hkd, hp⟩ | ⟨hkd, p, c, cs', hp, hq, hr⟩
 ·by_cases hb : 0 <= x.by_
  ·rw [if_pos hb]
   cases acc with
   | nil => exact fclosed_i001 hl hget hlt hm (dqt hb) hkd (mkD_one 5 _) (mkD_one 3 _) h1 h2 hp
   | cons a acc => exact fclosed_i011 hl hget hlt hm (dqt hb) hkd (mkD_one 5 _) (mkD_one 3 _) h1 h2 h3 hp
  ·rw [if_neg hb]
   cases acc with
   | nil => exact fclosed_i000 hl hget hlt hm (dqf hb) hkd (mkD_one 5 _) (mkD_one 3 _) h1 hp
   | cons a acc => exact fclosed_i010 hl hget hlt hm (dqf hb) hkd (mkD_one 5 _) (mkD_one 3 _) h1 h3 hp
 ·obtain ⟨ak, an, aa, aks, als⟩ := p
  by_cases hb : 0 <= x.by_
  ·rw [if_pos hb]
   cases acc with
   | nil => exact fclosed_i101 hl hget hlt hm (dqt hb) hkd (mkD_one 5 _) (mkD_one 3 _) h1 h2 (mkD_one 5 _) (mkD_one 3 _) hp hq hr
   | cons a acc => exact fclosed_i111 hl hget hlt hm (dqt hb) hkd (mkD_one 5 _) (mkD_one 3 _) h1 h2 h3 (mkD_one 5 _) (mkD_one 3 _) hp hq hr
  ·rw [if_neg hb]
   cases acc with
   | nil => exact fclosed_i100 hl hget hlt hm (dqf hb) hkd (mkD_one 5 _) (mkD_one 3 _) h1 (mkD_one 5 _) (mkD_one 3 _) hp hq hr
   | cons a acc => exact fclosed_i110 hl hget hlt hm (dqf hb) hkd (mkD_one 5 _) (mkD_one 3 _) h1 h3 (mkD_one 5 _) (mkD_one 3 _) hp hq hr
def bysF (w : Wb) (Q : List Nat) : List Int := (Q.map fun q => (followW w q).by_).filter fun x => decide (0 <= x)
theorem piece_ev (hw : InvW n w) (hB : FB bx l N F w) {q : Nat} (hq : q < w.ls.length) {k kd : Int} (hkd : (kd == 6) = (k == 7)) (hwt : k = 7 -> awaitK n w q = true) : PieceEv bx l kd (followW w q) (pieceW w k (followW w q)) := by
 have hp : ∀ r1 r2 : Box, ev cfg (.call 97 [.ptr l 0, .agg [I (followW w q).to, I (followW w q).by_, I (followW w q).last]] (bx ++ [r1, r2])) = Rq (pB (partW w (followW w q))) := fun r1 r2 => by
  have hE := hB.ex [r1, r2]
  exact partW_ev (ls := w.ls) hE.lt hE.get (by_lt hw hq)
 by_cases h7 : k = 7
 ·refine .inr ⟨by rw [hkd, h7]; rfl, ?_⟩
  have hpar := fun bx : List Box => partsW_ev (partW w (followW w q)) bx
  have ha := hwt h7
  rw [awaitK] at ha
  rw [pieceW, if_pos h7]
  have hlen : (partsB (partW w (followW w q))).length <= 64 := by
   rw [partW]
   cases hk : kidW w.ks (followW w q).by_ with
   | none => exact (by decide : (partsB emptyB).length <= 64)
   | some b =>
    rw [kidW] at hk
    split at hk
    ·cases hk
    ·exact (parts_len hw hk).1
  generalize partW w (followW w q) = p at *
  cases hps : partsB p with
  | nil => rw [hps] at ha; cases ha
  | cons c cs =>
   rw [hps] at hpar hlen
   refine ⟨p, cB c, cB.cBs cs, hp, hpar, fun bx => ?_⟩
   have hcl : cs.length <= 1000 := by simp at hlen; omega
   cases cs with
   | nil => exact rowW_ev (bs := []) (.inr ⟨rfl, 5, rfl, by simp, rfl⟩) hcl bx
   | cons d cs => exact rowW_ev (bs := d :: cs) (.inl rfl) hcl bx
 ·refine .inl ⟨by rw [hkd]; exact beq_eq_false_iff_ne.2 h7, ?_⟩
  rw [pieceW, if_neg h7]
  exact hp
theorem closed_loop (hw : InvW n w) (hB : FB bx l N F w) {s : Nat} {k kd jj nd : Int} {v : Bool} {Q : List Nat} (hQ : Q = outsW w.ls s) (hkd : (kd == 6) = (k == 7)) (hwt : k = 7 -> ∀ q ∈ Q, awaitK n w q = true) :
  ∀ (xs : List Nat) (i : Nat) (acc : List Nat), Q.drop i = xs -> acc.length = i →
   ev cfg (.loop 63 15 (qs bx (sh63_15 (.ptr l 0) (I s) (I kd) (I jj) (P0 bx) (.own true 1 (iR (jj :: bysF w acc))) (.own true 1 (nR (Q ++ acc.map fun q => (followW w q).last))) (.own v 3 ((Q.map (followW w)).map wyR)) (I ((Q.map (followW w)).map wyR).length) (I i)) [[I kd, I nd, I 0, mkS 5 (cB.cBs (acc.map fun q => pieceW w k (followW w q))), .dat .nil]])) =
    some (.loop (.exit 3) (qs bx (se63_15 (.ptr l 0) (I s) (I jj) (P0 bx) (.own true 1 (iR (jj :: bysF w (acc ++ xs)))) (.own true 1 (nR (Q ++ (acc ++ xs).map fun q => (followW w q).last)))) [[I kd, I nd, I 0, mkS 5 (cB.cBs ((acc ++ xs).map fun q => pieceW w k (followW w q))), .dat .nil]])) := by
 have hlens := hw.lens
 have hol : Q.length <= w.ls.length := by rw [hQ]; exact idxs_len _ _ _
 have hlt : ∀ q ∈ Q, q < w.ls.length := fun q hq => by rw [hQ] at hq; exact (outsW_lt hq).1
 have hwl : ((Q.map (followW w)).map wyR).length = Q.length := by simp
 intro xs
 induction xs with
 | nil =>
  intro i acc hd _
  rw [List.append_nil]
  exact es (fclosed_iend hB.lt (by rw [hwl]; exact drop_nil hd))
 | cons q xs ih =>
  intro i acc hd ha
  obtain ⟨hget, hd', hlti⟩ := drop_cons hd
  have hqm := mog hget
  have hpe := piece_ev hw hB (hlt q hqm) hkd (fun h7 => hwt h7 q hqm)
  have hby : (bysF w acc).length <= acc.length := by
   have := List.length_filter_le (fun x => decide (0 <= x)) (acc.map fun q => (followW w q).by_)
   rw [List.length_map] at this
   exact this
  have h := fclosed_round (s := s) (jj := jj) (nd := nd) (v := v) (gs := iR (jj :: bysF w acc)) (cs := nR (Q ++ acc.map fun q => (followW w q).last)) (acc := acc.map fun q => pieceW w k (followW w q)) hB.lt (wys_get hget) (by rw [hwl]; exact hlti) (by rw [hwl]; omega) hpe (by rw [nR_len]; simp; omega) (by rw [iR_len]; simp; omega) (by simp; omega)
  have h2 := ih (i + 1) (acc ++ [q]) hd' (by simp; omega)
  have e1 : iR (jj :: bysF w (acc ++ [q])) = if 0 <= (followW w q).by_ then iR (jj :: bysF w acc) ++ [[dI (followW w q).by_]] else iR (jj :: bysF w acc) := by
   rw [bysF, List.map_append, List.filter_append]
   by_cases h0 : 0 <= (followW w q).by_
   ·rw [if_pos h0]
    simp [h0, iR, bysF]
   ·rw [if_neg h0]
    simp [h0, iR, bysF]
  have e2 : nR (Q ++ (acc ++ [q]).map fun q => (followW w q).last) = nR (Q ++ acc.map fun q => (followW w q).last) ++ [[dI (followW w q).last]] := by
   rw [List.map_append, <- List.append_assoc]
   exact nR_app1 _ _
  rw [e1, e2, List.map_append] at h2
  rw [List.append_assoc] at h2
  exact es (h.trans h2)
end
end Go.Proofs.YtifckjhggamefaaGreatDoor
