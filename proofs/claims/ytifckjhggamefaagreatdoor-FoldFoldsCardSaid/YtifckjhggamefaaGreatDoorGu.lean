/- What the reference's without answers. No condition. -/
import Derived.Test.YtifckjhggamefaaGreatDoorGc
import Derived.Test.YtifckjhggamefaaGreatDoorGs
import Derived.Test.YtifckjhggamefaaGreatDoorGe
import Derived.Test.YtifckjhggamefaaGreatDoorGf
set_option linter.unusedSimpArgs false
set_option linter.unusedVariables false
set_option linter.unusedSectionVars false
namespace Go.Proofs.YtifckjhggamefaaGreatDoor
open Go Go.Vx
set_option maxRecDepth 10000
set_option maxHeartbeats 1000000
section
variable {bx : List Box} {c z : Box} {C X : D}
theorem mkS_lt (k h : Nat) (xs : List (List D)) : cellLt h (mkS k xs) = true := by cases xs <;> rfl
theorem xw_keep {ks : List Blk} {lr pr acc : List (List D)} {L : D} {gone : Nat -> Bool} {i : Nat} {f t w : Int} (hL : IsS 3 lr L) (oC : Oq C) (oX : Oq X) (hc : c.all (cellLt (bx.length + 4)) = true) (hz : z.all (cellLt (bx.length + 4)) = true) (hlt : i < lr.length) (hmax : lr.length < 1000) (hacc : acc.length <= i)
  (hget : lr[i]? = some [dI f, dI t, dI w]) (hf : f < 0 ∨ 0 <= f /\ pr[f.toNat]? = some [dI (renum gone f)]) (ht : t < 0 ∨ 0 <= t /\ pr[t.toNat]? = some [dI (renum gone t)])
  (hh : Cq 132 [.dat X, I i] (B false)) :
  Jq (.loop 102 11 (qs bx (sh102_11 (P1 bx) (P2 bx) (P3 bx) (.own true 1 pr) (.dat L) (I lr.length) (I i)) [c, Nb C X, z, [I 9, I 0, I 0, mkS 5 (cB.cBs ks), mkS 3 acc]])) =
   ev cfg (.loop 102 11 (qs bx (sh102_11 (P1 bx) (P2 bx) (P3 bx) (.own true 1 pr) (.dat L) (I lr.length) (I ((i + 1 : Nat) : Int))) [c, Nb C X, z, [I 9, I 0, I 0, mkS 5 (cB.cBs ks), mkS 3 (acc ++ [[dI (renum gone f), dI (renum gone t), dI w]])]])) := by
 have hks : (acc.length + 1) * 24 <= 140737488355328 := by omega
 have hy := mkS_lt 5 (bx.length + 4) (cB.cBs ks)
 rcases hf with hf | ⟨hf0, hf⟩ <;> rcases ht with ht | ⟨ht0, ht⟩
 ·rw [renum_neg hf, renum_neg ht]
  cases acc with
  | nil => exact xw_keep0nn hL oC oX hc hz hy hlt (by omega) hget (dqf (by omega)) (dqf (by omega)) hh
  | cons a acc => exact xw_keep1nn hL oC oX hc hz hy hlt (by omega) hks hget (dqf (by omega)) (dqf (by omega)) hh
 ·rw [renum_neg hf]
  have e : t = ((t.toNat : Nat) : Int) := (Int.toNat_of_nonneg ht0).symm
  rw [e] at hget
  cases acc with
  | nil => exact xw_keep0np hL oC oX hc hz hy hlt (by omega) hget (dqf (by omega)) ht hh
  | cons a acc => exact xw_keep1np hL oC oX hc hz hy hlt (by omega) hks hget (dqf (by omega)) ht hh
 ·rw [renum_neg ht]
  have e : f = ((f.toNat : Nat) : Int) := (Int.toNat_of_nonneg hf0).symm
  rw [e] at hget
  cases acc with
  | nil => exact xw_keep0pn hL oC oX hc hz hy hlt (by omega) hget hf (dqf (by omega)) hh
  | cons a acc => exact xw_keep1pn hL oC oX hc hz hy hlt (by omega) hks hget hf (dqf (by omega)) hh
 ·have e : t = ((t.toNat : Nat) : Int) := (Int.toNat_of_nonneg ht0).symm
  have e' : f = ((f.toNat : Nat) : Int) := (Int.toNat_of_nonneg hf0).symm
  rw [e, e'] at hget
  cases acc with
  | nil => exact xw_keep0pp hL oC oX hc hz hy hlt (by omega) hget hf ht hh
  | cons a acc => exact xw_keep1pp hL oC oX hc hz hy hlt (by omega) hks hget hf ht hh
theorem xwithout_ev {w : Wb} {gone : List Int} {cut : List Nat} (hlen : w.ks.length <= 100 /\ w.ls.length <= 100) (hr : ∀ l ∈ w.ls, (-1 <= l.1 /\ l.1 < w.ks.length) /\ -1 <= l.2.1 /\ l.2.1 < w.ks.length)
  (hC : IsS 1 (iR gone) C) (hX : IsS 1 (nR cut) X) (hgl : gone.length < 1000 /\ cut.length < 1000) (bx : List Box) :
  ev cfg (.call 102 [xW w, Nq C X] bx) = Rq (xW (dropW w gone cut)) := by
 have oC : Oq C := by obtain ⟨_, _, _, h⟩ := hC; exact h
 have oX : Oq X := by obtain ⟨_, _, _, h⟩ := hX; exact h
 have hkl : (cB.cBs w.ks).length = w.ks.length := cBs_len _
 have hll : (w.ls.map lnkD).length = w.ls.length := List.length_map ..
 have cC : ∀ (i : Nat) (bx : List Box), ev cfg (.call 132 [.dat C, I i] bx) = Rq (B (inL gone i)) := fun i bx => xhas_ev hC (by omega) i bx
 have cX : ∀ (i : Nat) (bx : List Box), ev cfg (.call 132 [.dat X, I i] bx) = Rq (B (cut.contains i)) := fun i bx => by
  rw [xhas_ev hX (by simp; omega) i bx, inL]
  refine congrArg (fun b : Bool => Rq (B b)) (Bool.eq_iff_iff.2 ?_)
  simp only [List.contains_iff_mem, List.mem_map]
  exact ⟨fun ⟨a, h, e⟩ => by rw [<- Int.ofNat_inj.1 e]; exact h, fun h => ⟨i, h, rfl⟩⟩
 have loop1 : ∀ (c z : Box), c.all (cellLt (bx.length + 4)) = true -> z.all (cellLt (bx.length + 4)) = true -> ∀ (bs : List Blk) (i m : Nat) (acc : List Blk), w.ks.drop i = bs -> m = bs.length -> acc.length = rank (inL gone) i -> acc.length <= i →
   ev cfg (.loop 102 4 (qs bx (sh102_4 (P0 bx) (P1 bx) (P2 bx) (P3 bx) (.own true 1 (prs (inL gone) i m)) (.dat (mkD 5 (cB.cBs w.ks))) (I (cB.cBs w.ks).length) (I i)) [c, Nb C X, z, [I 9, I 0, I 0, mkS 5 (cB.cBs acc), .dat .nil]])) =
    some (.loop (.exit 0) (qs bx (se102_4 (P0 bx) (P1 bx) (P2 bx) (P3 bx) (.own true 1 (prs (inL gone) (i + m) 0))) [c, Nb C X, z, [I 9, I 0, I 0, mkS 5 (cB.cBs (acc ++ dropK (inL gone) i bs)), .dat .nil]])) := by
  intro c z hc hz bs
  induction bs with
  | nil =>
   intro i m acc hd hm ha _
   have hm0 : m = 0 := hm
   subst hm0
   rw [dropK, List.append_nil]
   exact es (xw_kend (mkD_one 5 _) oC oX hc hz (mkS_lt 5 _ _) (by rw [hkl]; exact drop_nil hd))
  | cons b bs ih =>
   intro i m acc hd hm ha hai
   obtain ⟨hget, hd', hlt⟩ := drop_cons hd
   have hm1 : m = bs.length + 1 := hm
   subst hm1
   have hrow := cBs_get hget
   have hrr : [dI ((acc.length : Nat) : Int)] = [dI ((rank (inL gone) i : Nat) : Int)] := by rw [ha]
   have ed : dropK (inL gone) i (b :: bs) = if inL gone i = true then dropK (inL gone) (i + 1) bs else b :: dropK (inL gone) (i + 1) bs := rfl
   rw [show i + (bs.length + 1) = i + 1 + bs.length by omega]
   obtain ⟨k, n, a, ks', ls'⟩ := b
   cases acc with
   | nil =>
    have hr := xw_k0 (pr := prs (inL gone) i (bs.length + 1)) (mkD_isS 5 _) oC oX hc hz hrow (mkD_one 5 _) (mkD_one 3 _) prs_get (by rw [hkl]; omega) (cC i)
    have h0 : rank (inL gone) i = 0 := ha.symm
    rw [show [dI ((0 : Nat) : Int)] = [dI ((rank (inL gone) i : Nat) : Int)] by rw [h0], prs_set] at hr
    refine es (hr.trans ?_)
    rw [ed]
    cases hg : inL gone i with
    | true =>
     rw [if_pos rfl, if_pos rfl]
     exact ih (i + 1) bs.length [] hd' rfl (by rw [rank_gone hg]; exact h0.symm) (by simp)
    | false =>
     rw [if_neg fnt, if_neg fnt]
     exact ih (i + 1) bs.length [.mk k n a ks' ls'] hd' rfl (by rw [rank_succ hg, h0]; rfl) (by simp)
   | cons c acc =>
    have hr := xw_k1 (pr := prs (inL gone) i (bs.length + 1)) (ks := cB.cBs (c :: acc)) (mkD_isS 5 _) oC oX hc hz hrow (mkD_one 5 _) (mkD_one 3 _) prs_get (by rw [hkl]; omega) (by rw [cBs_len]; omega) (cC i)
    rw [cBs_len (c :: acc), hrr, prs_set] at hr
    refine es (hr.trans ?_)
    rw [ed]
    cases hg : inL gone i with
    | true =>
     rw [if_pos rfl, if_pos rfl]
     exact ih (i + 1) bs.length (c :: acc) hd' rfl (by rw [rank_gone hg]; exact ha) (by omega)
    | false =>
     rw [if_neg fnt, if_neg fnt]
     have := ih (i + 1) bs.length (c :: acc ++ [.mk k n a ks' ls']) hd' rfl (by rw [rank_succ hg, <- ha]; simp) (by simp at hai ⊢; omega)
     rw [List.append_assoc] at this
     rw [cBs_app] at this
     exact this
 have loop2 : ∀ (c z : Box), c.all (cellLt (bx.length + 4)) = true -> z.all (cellLt (bx.length + 4)) = true -> ∀ (xs : List Lk) (i : Nat) (acc : List Lk), w.ls.drop i = xs -> acc.length <= i →
   ev cfg (.loop 102 11 (qs bx (sh102_11 (P1 bx) (P2 bx) (P3 bx) (.own true 1 (prs (inL gone) w.ks.length 0)) (.dat (mkD 3 (w.ls.map lnkD))) (I (w.ls.map lnkD).length) (I i)) [c, Nb C X, z, [I 9, I 0, I 0, mkS 5 (cB.cBs (dropK (inL gone) 0 w.ks)), mkS 3 (acc.map lnkD)]])) =
    some (.loop (.exit 2) (qs bx (se102_11 (P2 bx) (P3 bx)) [c, Nb C X, z, [I 9, I 0, I 0, mkS 5 (cB.cBs (dropK (inL gone) 0 w.ks)), mkS 3 ((acc ++ dropL (inL gone) cut.contains i xs).map lnkD)]])) := by
  intro c z hc hz xs
  induction xs with
  | nil =>
   intro i acc hd _
   rw [dropL, List.append_nil]
   exact es (xw_lend (mkD_one 3 _) oC oX hc hz (mkS_lt 5 _ _) (mkS_lt 3 _ _) (by rw [hll]; exact drop_nil hd))
  | cons x xs ih =>
   intro i acc hd ha
   obtain ⟨hget, hd', hlt⟩ := drop_cons hd
   have hlk := lnk_get hget
   have hcz := cX i
   have hxr := hr x (mog hget)
   have hend : ∀ y : Int, -1 <= y /\ y < w.ks.length -> y < 0 ∨ 0 <= y /\ (prs (inL gone) w.ks.length 0)[y.toNat]? = some [dI (renum (inL gone) y)] := fun y hy => by
    by_cases h0 : y < 0
    ·exact .inl h0
    ·refine .inr ⟨by omega, ?_⟩
     rw [prs_end (by omega), renum, if_neg h0]
   rw [dropL]
   cases hcc : cut.contains i with
   | true =>
    rw [hcc] at hcz
    rw [if_pos rfl]
    have h2 := ih (i + 1) acc hd' (by omega)
    cases acc with
    | nil => exact es ((xw_gone0 (mkD_isS 3 _) oC oX hc hz (mkS_lt 5 _ _) (by rw [hll]; exact hlt) (by rw [hll]; omega) hlk hcz).trans h2)
    | cons c acc => exact es ((xw_gone1 (ls := (c :: acc).map lnkD) (mkD_isS 3 _) oC oX hc hz (mkS_lt 5 _ _) (by rw [hll]; exact hlt) (by rw [hll]; omega) hlk hcz).trans h2)
   | false =>
    rw [hcc] at hcz
    rw [if_neg fnt]
    have h2 := ih (i + 1) (acc ++ [(renum (inL gone) x.1, renum (inL gone) x.2.1, x.2.2)]) hd' (by simp; omega)
    rw [List.append_assoc, List.map_append] at h2
    exact es ((xw_keep (acc := acc.map lnkD) (mkD_isS 3 _) oC oX hc hz (by rw [hll]; exact hlt) (by rw [hll]; omega) (by rw [List.length_map]; exact ha) hlk (hend _ hxr.1) (hend _ hxr.2) hcz).trans h2)
 refine es (xw_f (pr := prs (inL gone) w.ks.length 0) (mkD_isS 5 _) (mkD_isS 3 _) oC oX (by rw [hkl]; omega) (fun c z hc hz => ?_) (fun c z hc hz => ?_))
 ·have h1 := loop1 c z hc hz w.ks 0 w.ks.length [] rfl rfl rfl (Nat.le_refl _)
  rw [Nat.zero_add, List.nil_append] at h1
  rw [hkl] at h1 ⊢
  have e : prs (inL gone) 0 w.ks.length = List.replicate w.ks.length [dI 0] := by rw [prs]; rfl
  rw [e] at h1
  exact h1
 ·have h2 := loop2 c z hc hz w.ls 0 [] rfl (Nat.le_refl _)
  rw [List.nil_append] at h2
  exact h2
end
theorem int_ne1 (a : Nat) : ((a : Int) != 1) = (a != 1) := by
 rw [Bool.eq_iff_iff, bne_iff_ne, bne_iff_ne]; omega
theorem int_nen (a b : Nat) : ((a : Int) != (b : Int)) = (a != b) := by
 rw [Bool.eq_iff_iff, bne_iff_ne, bne_iff_ne]; omega
section
variable {n : Nt} {w : Wb} {N F : D}
theorem kid_ways (hG : Gates n) (hw : InvW n w) {s : Nat} (hs : s < w.ks.length) : (∃ qz qr, outsW w.ls s = qz :: qr) /\ (∃ qz qr, insW w.ls s = qz :: qr) := by
 have ne : ∀ {l : List Nat}, 0 < l.length -> ∃ a t, l = a :: t := fun {l} h => by cases l with | nil => cases h | cons a t => exact ⟨a, t, rfl⟩
 cases hg : gateW w.ks s with
 | false =>
  obtain ⟨h1, h2⟩ := outs_one hw hs hg
  exact ⟨⟨_, _, h1⟩, ⟨_, _, h2⟩⟩
 | true =>
  have hgi := gge hs
  have h8 : w.ks[s].kd = 8 := by rw [gate_iff hgi] at hg; simpa using hg
  obtain ⟨g1, g2, g3, g4⟩ := (hw.kid s _ hgi).gate h8
  rcases hG.2 _ g1.1 g1.2 g2 with ⟨e1, e2⟩ | ⟨e1, e2, _⟩
  ·exact ⟨ne (by omega), ne (by omega)⟩
  ·exact ⟨ne (by omega), ne (by omega)⟩
theorem xouts_ne (hG : Gates n) (hw : InvW n w) {j : Int} (h0 : 0 <= j) (hj : j < w.ks.length) (bx : List Box) : ev cfg (.call 57 [xW w, I j] bx) = Rq (.own true 1 (nR (outsW w.ls j))) := by
 obtain ⟨s, rfl⟩ : ∃ s : Nat, j = s := ⟨j.toNat, by omega⟩
 obtain ⟨⟨qz, qr, h⟩, _⟩ := kid_ways hG hw (s := s) (by omega)
 rw [xouts_ev (by have := hw.lens; omega), h]; rfl
theorem xins_ne (hG : Gates n) (hw : InvW n w) {j : Int} (h0 : 0 <= j) (hj : j < w.ks.length) (bx : List Box) : ev cfg (.call 56 [xW w, I j] bx) = Rq (.own true 1 (nR (insW w.ls j))) := by
 obtain ⟨s, rfl⟩ : ∃ s : Nat, j = s := ⟨j.toNat, by omega⟩
 obtain ⟨_, ⟨qz, qr, h⟩⟩ := kid_ways hG hw (s := s) (by omega)
 rw [xins_ev (by have := hw.lens; omega), h]; rfl
theorem outs_le (w : Wb) (q : Int) : (outsW w.ls q).length <= w.ls.length := idxs_len _ _ _
theorem xways_ev (hG : Gates n) (hN : IsN n N F) (hw : InvW n w) {s : Nat} (hs : s < w.ks.length) (bx : List Box) :
  ev cfg (.call 104 [Nq N F, xW w, I s] bx) = Rq (.own true 3 ((waysW w s).map wyR)) := by
 obtain ⟨oN, oF⟩ := xisN_one hN
 have hlens := hw.lens
 have hol := outs_le w s
 have hf : ∀ q ∈ outsW w.ls s, Cq 106 [Nq N F, xW w, I (q : Nat)] (.agg [I (followW w q).to, I (followW w q).by_, I (followW w q).last]) := fun q hq bx => xfollow_ev hN hw (outsW_lt hq).1 bx
 have loop : ∀ (xs : List Nat) (i : Nat) (acc : List Nat), (outsW w.ls s).drop i = xs -> acc.length <= i →
   ev cfg (.loop 104 3 (qs bx (sh104_3 (P0 bx) (P1 bx) (mkS 3 ((acc.map (followW w)).map wyR)) (.own true 1 (nR (outsW w.ls s))) (I (nR (outsW w.ls s)).length) (I i)) [Nb N F, Wx 9 0 0 (mkD 5 (cB.cBs w.ks)) (mkD 3 (w.ls.map lnkD))])) =
    some (.loop (.exit 0) (qs bx (se104_3 (mkS 3 (((acc ++ xs).map (followW w)).map wyR))) [Nb N F, Wx 9 0 0 (mkD 5 (cB.cBs w.ks)) (mkD 3 (w.ls.map lnkD))])) := by
  intro xs
  induction xs with
  | nil =>
   intro i acc hd _
   rw [List.append_nil]
   exact es (xways_end oN oF (mkD_one 5 _) (mkD_one 3 _) (by rw [nR_len]; exact drop_nil hd))
  | cons q xs ih =>
   intro i acc hd ha
   obtain ⟨hget, hd', hlt⟩ := drop_cons hd
   have h2 := ih (i + 1) (acc ++ [q]) hd' (by simp; omega)
   rw [List.append_assoc, List.map_append, List.map_append] at h2
   cases acc with
   | nil => exact es ((xways_0 oN oF (mkD_one 5 _) (mkD_one 3 _) (nR_get hget) (by rw [nR_len]; exact hlt) (by rw [nR_len]; omega) (hf q (mog hget))).trans h2)
   | cons a acc => exact es ((xways_1 (ws := ((a :: acc).map (followW w)).map wyR) oN oF (mkD_one 5 _) (mkD_one 3 _) (nR_get hget) (by rw [nR_len]; exact hlt) (by rw [nR_len]; omega) (by simp at ha ⊢; omega) (hf q (mog hget))).trans h2)
 have h := loop (outsW w.ls s) 0 [] rfl (Nat.le_refl _)
 have := es (xways_f (ws := (waysW w s).map wyR) oN oF (mkD_one 5 _) (mkD_one 3 _) (fun bx => xouts_ne hG hw (Int.natCast_nonneg s) (by omega) bx) h)
 rw [mkS_ne] at this
 ·exact this
 ·obtain ⟨⟨qz, qr, hQ⟩, _⟩ := kid_ways hG hw hs
  rw [waysW, hQ]; simp
theorem all_split {α : Type} (a b : α -> Bool) (c : Bool) (l : List α) : (l.all fun x => a x && (c || b x)) = (l.all a && (c || l.all b)) := by
 induction l with
 | nil => cases c <;> rfl
 | cons x xs ih =>
  simp only [List.all_cons, ih]
  cases a x <;> cases c <;> cases b x <;> cases xs.all a <;> rfl
theorem close_def (s : Nat) : closeAt n w s = if (gkW n w s == 0 || decide ((waysW w s).length < 2) || (decide ((followW w (hd (outsW w.ls s))).to < 0) || (followW w (hd (outsW w.ls s))).to == (s : Int) || gkW n w (followW w (hd (outsW w.ls s))).to != joinOf (gkW n w s) || (outsW w.ls (followW w (hd (outsW w.ls s))).to).length != 1 || (insW w.ls (followW w (hd (outsW w.ls s))).to).length != (waysW w s).length)) = true then none
  else if ((waysW w s).all (fun x => x.to == (followW w (hd (outsW w.ls s))).to) && (gkW n w s != 7 || (outsW w.ls s).all (awaitK n w))) = true then some (followW w (hd (outsW w.ls s))).to else none := rfl
theorem xclosing_ev (hG : Gates n) (hN : IsN n N F) (hw : InvW n w) {s : Nat} (hs : s < w.ks.length) (bx : List Box) :
  ev cfg (.call 103 [Nq N F, xW w, I s] bx) = Rq (I ((closeAt n w s).getD (-1))) := by
 obtain ⟨oN, oF⟩ := xisN_one hN
 have hN' := hN
 obtain ⟨nr, fr, _, _, _, hF, hfr, _⟩ := hN'
 have hlens := hw.lens
 have hol := outs_le w s
 obtain ⟨⟨qz, qr, hQ⟩, _⟩ := kid_ways hG hw hs
 have hlt : ∀ q ∈ outsW w.ls s, q < w.ls.length := fun q hq => (outsW_lt hq).1
 have hq0 : qz < w.ls.length := hlt qz (by rw [hQ]; exact mcs)
 have hg := xgate_ev hN hw (q := (s : Int)) (by omega)
 have hwy := xways_ev hG hN hw hs
 have hos := xouts_ne hG hw (Int.natCast_nonneg s) (by omega)
 have hhd : hd (outsW w.ls s) = qz := by rw [hQ]; rfl
 have hjl : (followW w qz).to < w.ks.length := to_lt hw hq0
 rw [close_def, hhd]
 obtain ⟨kk, hkk⟩ : ∃ kk, gkW n w s = kk := ⟨_, rfl⟩
 obtain ⟨J, hJ⟩ : ∃ J, (followW w qz).to = J := ⟨_, rfl⟩
 rw [hkk] at hg ⊢
 rw [hJ] at hjl ⊢
 have hwl : (waysW w s).length = qr.length + 1 := by rw [waysW, hQ]; simp
 have hwr : (waysW w s).map wyR = [dI J, dI (followW w qz).by_, dI ((followW w qz).last : Nat)] :: (qr.map (followW w)).map wyR := by rw [waysW, hQ, <- hJ]; rfl
 have loop : ∀ (xs : List Nat) (i : Nat), (outsW w.ls s).drop i = xs →
   ev cfg (.loop 103 12 (qs bx (sh103_12 (I s) (P0 bx) (P1 bx) (I kk) (I J) (.own true 3 ((waysW w s).map wyR)) (I ((waysW w s).map wyR).length) (I i)) [Nb N F, Wx 9 0 0 (mkD 5 (cB.cBs w.ks)) (mkD 3 (w.ls.map lnkD))])) =
    if (xs.all fun q => (followW w q).to == J && ((kk != 7) || awaitK n w q)) = true then some (.loop (.exit 0) (qs bx (se103_12 .dead (I J)) [Nb N F, Wx 9 0 0 (mkD 5 (cB.cBs w.ks)) (mkD 3 (w.ls.map lnkD))]))
    else some (.loop .ret (qs bx (se103_12 (I (-1)) (I J)) [Nb N F, Wx 9 0 0 (mkD 5 (cB.cBs w.ks)) (mkD 3 (w.ls.map lnkD))])) := by
  intro xs
  induction xs with
  | nil =>
   intro i hd
   rw [List.all_nil, if_pos rfl]
   exact es (xcl_end oN oF (mkD_one 5 _) (mkD_one 3 _) (by rw [List.length_map, hwl]; have := drop_nil hd; rw [hQ] at this; exact this))
  | cons q xs ih =>
   intro i hd
   obtain ⟨hget, hd', hlti⟩ := drop_cons hd
   have hql := hlt q (mog hget)
   have hwg : ((waysW w s).map wyR)[i]? = some [dI (followW w q).to, dI (followW w q).by_, dI (followW w q).last] := wys_get hget
   have h1 : i < ((waysW w s).map wyR).length := (gsi.1 hwg).1
   have h2 : ((waysW w s).map wyR).length < 9223372036854775808 := by rw [List.length_map, hwl]; rw [hQ] at hol; simp at hol; omega
   have hp := xpart_ev (w := w) (by_lt hw hql)
   have hq := xparts_ev (partW w (followW w q))
   have fin : ∀ {v : Bool} (hv : ((followW w q).to == J && ((kk != 7) || awaitK n w q)) = v), (v = false -> ∃ r, Jq (.loop 103 12 (qs bx (sh103_12 (I s) (P0 bx) (P1 bx) (I kk) (I J) (.own true 3 ((waysW w s).map wyR)) (I ((waysW w s).map wyR).length) (I i)) [Nb N F, Wx 9 0 0 (mkD 5 (cB.cBs w.ks)) (mkD 3 (w.ls.map lnkD))])) = some r /\ r = .loop .ret (qs bx (se103_12 (I (-1)) (I J)) [Nb N F, Wx 9 0 0 (mkD 5 (cB.cBs w.ks)) (mkD 3 (w.ls.map lnkD))])) →
     (v = true -> Jq (.loop 103 12 (qs bx (sh103_12 (I s) (P0 bx) (P1 bx) (I kk) (I J) (.own true 3 ((waysW w s).map wyR)) (I ((waysW w s).map wyR).length) (I i)) [Nb N F, Wx 9 0 0 (mkD 5 (cB.cBs w.ks)) (mkD 3 (w.ls.map lnkD))])) = ev cfg (.loop 103 12 (qs bx (sh103_12 (I s) (P0 bx) (P1 bx) (I kk) (I J) (.own true 3 ((waysW w s).map wyR)) (I ((waysW w s).map wyR).length) (I ((i + 1 : Nat) : Int))) [Nb N F, Wx 9 0 0 (mkD 5 (cB.cBs w.ks)) (mkD 3 (w.ls.map lnkD))]))) →
     ev cfg (.loop 103 12 (qs bx (sh103_12 (I s) (P0 bx) (P1 bx) (I kk) (I J) (.own true 3 ((waysW w s).map wyR)) (I ((waysW w s).map wyR).length) (I i)) [Nb N F, Wx 9 0 0 (mkD 5 (cB.cBs w.ks)) (mkD 3 (w.ls.map lnkD))])) =
      if ((q :: xs).all fun q => (followW w q).to == J && ((kk != 7) || awaitK n w q)) = true then some (.loop (.exit 0) (qs bx (se103_12 .dead (I J)) [Nb N F, Wx 9 0 0 (mkD 5 (cB.cBs w.ks)) (mkD 3 (w.ls.map lnkD))]))
      else some (.loop .ret (qs bx (se103_12 (I (-1)) (I J)) [Nb N F, Wx 9 0 0 (mkD 5 (cB.cBs w.ks)) (mkD 3 (w.ls.map lnkD))])) := by
    intro v hv hno hyes
    rw [List.all_cons, hv]
    cases v with
    | false =>
     obtain ⟨r, h, rfl⟩ := hno rfl
     rw [Bool.false_and, if_neg fnt]
     exact es h
    | true =>
     have h3 := ih (i + 1) hd'
     rw [Bool.true_and]
     split
     ·rename_i ha
      rw [if_pos ha] at h3
      exact es ((hyes rfl).trans h3)
     ·rename_i ha
      rw [if_neg ha] at h3
      exact es ((hyes rfl).trans h3)
   cases c0 : ((followW w q).to == J) with
   | false => exact fin (v := false) (by rw [c0]; rfl) (fun _ => ⟨_, xcl_to oN oF (mkD_one 5 _) (mkD_one 3 _) hwg h1 h2 (by rw [bne, c0]; rfl), rfl⟩) (fun h => by cases h)
   | true =>
    have he : ((followW w q).to != J) = false := by rw [bne, c0]; rfl
    by_cases h7 : kk = 7
    ·subst h7
     rw [awaitK] at fin
     generalize partW w (followW w q) = p at hp hq fin
     cases hps : partsB p with
     | nil =>
      rw [hps] at hq fin
      obtain ⟨k, nn, a, ks, ls⟩ := p
      exact fin (v := false) (by rw [c0]; rfl) (fun _ => ⟨_, xcl_70 oN oF (mkD_one 5 _) (mkD_one 3 _) hwg h1 h2 he hp (mkD_one 5 _) (mkD_one 3 _) hq, rfl⟩) (fun h => by cases h)
     | cons c cs =>
      rw [hps] at hq fin
      obtain ⟨k, nn, a, ks, ls⟩ := p
      obtain ⟨pk, pn, pa, pks, pls⟩ := c
      by_cases c1 : pk = 2
      ·have d1 : (pk != 2) = false := by simp [c1]
       have hfl := (hw.rng _ (mog (lk_of hql))).2.2
       obtain ⟨f, hf⟩ : ∃ f : Nat, (lkW w.ls q).2.2 = f := ⟨(lkW w.ls q).2.2.toNat, by omega⟩
       have hfn : f < n.flows.length := by omega
       obtain ⟨row, hrow, hrr⟩ := hfr.get hfn
       obtain ⟨_, _, op, m, KK, rfl, _⟩ := hrr
       have hlk := lnk_getk hql
       rw [hf] at hlk
       have hto : flowTo n w q = n.flows[f].to := by
        rw [flowTo, hf]; simp [hfn]
       rw [hto] at fin
       have h4 := xcl_7d (bx := bx) (j := J) (s := (s : Int)) oN hF (mkD_one 5 _) (mkD_isS 3 _) hwg h1 h2 he hp (mkD_one 5 _) (mkD_one 3 _) hq (mkD_isS 5 (cB (.mk pk pn pa pks pls) :: cB.cBs cs)) d1 hos (nR_get hget) hlk hrow
       by_cases c2 : pn = n.flows[f].to
       ·have d2 : (pn != n.flows[f].to) = false := by simp [c2]
        rw [d2, if_neg fnt] at h4
        exact fin (v := true) (by rw [c0]; show (true && (false || ((pk == 2) && (pn == n.flows[f].to)))) = true; simp [c1, c2]) (fun h => by cases h) (fun _ => h4)
       ·have d2 : (pn != n.flows[f].to) = true := by simpa using c2
        rw [d2, if_pos rfl] at h4
        exact fin (v := false) (by rw [c0]; show (true && (false || ((pk == 2) && (pn == n.flows[f].to)))) = false; simp [c2]) (fun _ => ⟨_, h4, rfl⟩) (fun h => by cases h)
      ·have d1 : (pk != 2) = true := by simpa using c1
       exact fin (v := false) (by rw [c0]; show (true && (false || ((pk == 2) && _))) = false; simp [c1]) (fun _ => ⟨_, xcl_7d2 oN oF (mkD_one 5 _) (mkD_one 3 _) hwg h1 h2 he hp (mkD_one 5 _) (mkD_one 3 _) hq (mkD_isS 5 (cB (.mk pk pn pa pks pls) :: cB.cBs cs)) d1, rfl⟩) (fun h => by cases h)
    ·have h7' : (kk == 7) = false := beq_eq_false_iff_ne.2 h7
     generalize partW w (followW w q) = p at hp hq
     obtain ⟨k, nn, a, ks, ls⟩ := p
     exact fin (v := true) (by rw [c0, bne, h7']; rfl) (fun h => by cases h) (fun _ => xcl_od oN oF (mkD_one 5 _) (mkD_one 3 _) hwg h1 h2 he h7' hp (mkD_one 5 _) (mkD_one 3 _) hq (mkD_one 5 _))
 have hall : ((outsW w.ls s).all fun q => (followW w q).to == J && ((kk != 7) || awaitK n w q)) = ((waysW w s).all (fun x => x.to == J) && (kk != 7 || (outsW w.ls s).all (awaitK n w))) := by
  rw [all_split, waysW, List.all_map]; rfl
 have hl := loop (outsW w.ls s) 0 rfl
 rw [hall] at hl
 cases c0 : (kk == 0) with
 | true =>
  rw [if_pos (by simp [c0])]
  exact es (xcl_a oN oF (mkD_one 5 _) (mkD_one 3 _) hg hwy c0)
 | false =>
  cases qr with
  | nil =>
   rw [if_pos (by rw [hwl]; simp)]
   rw [hwr] at hwy
   exact es (xcl_b oN oF (mkD_one 5 _) (mkD_one 3 _) hg hwy c0)
  | cons q1 qr =>
   have d0 : decide ((waysW w s).length < 2) = false := dqf (by rw [hwl, List.length_cons]; omega)
   rw [hwr] at hwy hl
   by_cases c1 : J < 0
   ·have d1 : decide (J < 0) = true := dqt c1
    rw [if_pos (by simp [d1])]
    exact es (xcl_c1 oN oF (mkD_one 5 _) (mkD_one 3 _) hg hwy c0 d1)
   ·have d1 : decide (J < 0) = false := dqf c1
    cases c2 : (J == (s : Int)) with
    | true =>
     rw [if_pos (by simp)]
     exact es (xcl_c2 oN oF (mkD_one 5 _) (mkD_one 3 _) hg hwy c0 d1 c2)
    | false =>
     have hgj := xgate_ev hN hw hjl
     have hoj := xouts_ne hG hw (by omega) hjl
     have hij := xins_ne hG hw (by omega) hjl
     have e4 : (((nR (outsW w.ls J)).length : Int) != 1) = ((outsW w.ls J).length != 1) := by rw [nR_len]; exact int_ne1 _
     have e5 : (((nR (insW w.ls J)).length : Int) != (((((qr.map (followW w)).map wyR)).length + 1 + 1 : Nat) : Int)) = ((insW w.ls J).length != (waysW w s).length) := by
      rw [nR_len, hwl, List.length_map, List.length_map]; exact int_nen _ _
     cases k6 : (kk == 6) with
     | true => 
      have hjn : joinOf kk = 6 := by rw [joinOf]; rw [if_pos (by simpa using k6)]
      rw [hjn]
      cases c3 : (gkW n w J != 6) with
      | true =>
       rw [if_pos (by simp)]
       exact es (xcl_c36 oN oF (mkD_one 5 _) (mkD_one 3 _) hg hwy c0 k6 d1 c2 hgj c3)
      | false =>
       cases c4 : ((outsW w.ls J).length != 1) with
       | true =>
        rw [c4] at e4
        rw [if_pos (by simp)]
        exact es (xcl_c46 oN oF (mkD_one 5 _) (mkD_one 3 _) hg hwy c0 k6 d1 c2 hgj c3 hoj e4)
       | false =>
        rw [c4] at e4
        cases c5 : ((insW w.ls J).length != (waysW w s).length) with
        | true =>
         rw [c5] at e5
         rw [if_pos (by simp)]
         exact es (xcl_c56 oN oF (mkD_one 5 _) (mkD_one 3 _) hg hwy c0 k6 d1 c2 hgj c3 hoj e4 hij e5)
        | false =>
         rw [c5] at e5
         rw [if_neg (by simp [d0, d1])]
         split
         ·rename_i ha
          rw [if_pos ha] at hl
          exact es (xcl_c76 oN oF (mkD_one 5 _) (mkD_one 3 _) hg hwy c0 k6 d1 c2 hgj c3 hoj e4 hij e5 hl)
         ·rename_i ha
          rw [if_neg ha] at hl
          exact es (xcl_c66 oN oF (mkD_one 5 _) (mkD_one 3 _) hg hwy c0 k6 d1 c2 hgj c3 hoj e4 hij e5 hl)
     | false => 
      have hjn : joinOf kk = 5 := by rw [joinOf]; rw [if_neg (by simpa using k6)]
      rw [hjn]
      cases c3 : (gkW n w J != 5) with
      | true =>
       rw [if_pos (by simp)]
       exact es (xcl_c35 oN oF (mkD_one 5 _) (mkD_one 3 _) hg hwy c0 k6 d1 c2 hgj c3)
      | false =>
       cases c4 : ((outsW w.ls J).length != 1) with
       | true =>
        rw [c4] at e4
        rw [if_pos (by simp)]
        exact es (xcl_c45 oN oF (mkD_one 5 _) (mkD_one 3 _) hg hwy c0 k6 d1 c2 hgj c3 hoj e4)
       | false =>
        rw [c4] at e4
        cases c5 : ((insW w.ls J).length != (waysW w s).length) with
        | true =>
         rw [c5] at e5
         rw [if_pos (by simp)]
         exact es (xcl_c55 oN oF (mkD_one 5 _) (mkD_one 3 _) hg hwy c0 k6 d1 c2 hgj c3 hoj e4 hij e5)
        | false =>
         rw [c5] at e5
         rw [if_neg (by simp [d0, d1])]
         split
         ·rename_i ha
          rw [if_pos ha] at hl
          exact es (xcl_c75 oN oF (mkD_one 5 _) (mkD_one 3 _) hg hwy c0 k6 d1 c2 hgj c3 hoj e4 hij e5 hl)
         ·rename_i ha
          rw [if_neg ha] at hl
          exact es (xcl_c65 oN oF (mkD_one 5 _) (mkD_one 3 _) hg hwy c0 k6 d1 c2 hgj c3 hoj e4 hij e5 hl)
end
end Go.Proofs.YtifckjhggamefaaGreatDoor
