/- What the law's 'large' answers: by the lists. No condition. -/
import Derived.Test.YtifckjhggamefaaGreatDoorGt
import Derived.Test.YtifckjhggamefaaGreatDoorGr
import Derived.Test.YtifckjhggamefaaGreatDoorGc
import Derived.Test.YtifckjhggamefaaGreatDoorGu
import Derived.Test.YtifckjhggamefaaGreatDoorGg
import Derived.Test.YtifckjhggamefaaGreatDoorGh
import Derived.Test.YtifckjhggamefaaGreatDoorGv
set_option linter.unusedSimpArgs false
set_option linter.unusedVariables false
set_option linter.unusedSectionVars false
namespace Go.Proofs.YtifckjhggamefaaGreatDoor
open Go Go.Vx
set_option maxRecDepth 10000
set_option maxHeartbeats 1000000
theorem nlarge_ev {n : Nt} {N F : D} (h : IsN n N F) (bx : List Box) : ev cfg (.call 7 [Nq N F] bx) = Rq (B (largeN n)) := by
 obtain ⟨o1, o2⟩ := isN_one h
 obtain ⟨nr, fr, hN, hnr, hmax, hF, hfr, hmax2⟩ := h
 have hlen : nr.length = n.nodes.length := hnr.1
 have hflen : fr.length = n.flows.length := hfr.1
 by_cases hb : (decide ((nr.length : Int) > 30) || decide ((fr.length : Int) > 50)) = true
 ·rw [es (large_big hN hF hb), largeN, <- hlen, <- hflen, <- Bool.or_assoc, hb, Bool.true_or]
 have hb' := hb
 simp only [Bool.not_eq_true, Bool.or_eq_false_iff] at hb'
 obtain ⟨c1, c2⟩ := hb'
 have deep1 : ∀ (t : Trm) {op k : Int} {K : D} {m : Int}, IsT t op k K -> -1 <= m -> m <= 1000000 -> ∀ c : Box, ev cfg (.call 25 [Tq op k K, P1 bx, I 1] (bx ++ [Nb N F, [I m], c])) = some (.ret (B (lgT m 1 t).1) (some ⟨bx ++ [Nb N F, [I (lgT m 1 t).2], c], bx.length + 1, false⟩)) := fun t op k K m hT h1 h2 c => by
  have := ldeep_ev t (bx := bx ++ [Nb N F, [I m], c]) (l := bx.length + 1) (d := 1) hT h1 h2 (by omega) (by omega) (by simp)
  rw [this]
  simp
 have loop1 : ∀ (xs : List Nd) (i : Nat) (m : Int), n.nodes.drop i = xs -> -1 <= m -> m <= 1000000 -> ev cfg (.loop 7 5 (qs bx (sh7_5 (P0 bx) (P1 bx) (.dat N) (I nr.length) (I i)) [Nb N F, [I m]])) =
   some (if (lgT.lgs m 1 (xs.map (·.t))).1 = true then .loop .ret (qs bx (se7_5 (P0 bx) (B true) (P1 bx)) [Nb N F, [I (lgT.lgs m 1 (xs.map (·.t))).2]]) else .loop (.exit 0) (qs bx (se7_5 (P0 bx) .dead (P1 bx)) [Nb N F, [I (lgT.lgs m 1 (xs.map (·.t))).2]])) := by
  intro xs
  induction xs with
  | nil =>
   intro i m hd h1 h2
   rw [List.map_nil, lgT.lgs, if_neg (by simp)]
   exact es (large_e1 o1 o2 (by rw [hlen]; exact drop_nil hd))
  | cons x xs ih =>
   intro i m hd h1 h2
   obtain ⟨hget, hd', hlt⟩ := drop_cons hd
   obtain ⟨row, hrow, _, _, op, k, K, rfl, hT⟩ := hnr.2 i x hget
   have hr := large_r1 (res := lgT m 1 x.t) hN o2 hrow (by rw [hlen]; exact hlt) (by rw [hlen]; exact hmax) (isT_one hT) (deep1 x.t hT h1 h2)
   rw [List.map_cons, lgT.lgs]
   by_cases hc : (lgT m 1 x.t).1 = true
   ·rw [if_pos hc] at hr
    rw [if_pos hc, if_pos rfl]
    exact es hr
   ·rw [if_neg hc] at hr
    rw [if_neg hc]
    have := lgT_ge x.t m 1
    exact es (hr.trans (ih (i + 1) _ hd' (lgT_lo x.t m 1 hc) (by omega)))
 have loop2 : ∀ (xs : List Fl) (i : Nat) (m : Int), n.flows.drop i = xs -> -1 <= m -> m <= 1000000 -> ev cfg (.loop 7 11 (qs bx (sh7_11 (P1 bx) (.dat F) (I fr.length) (I i)) [Nb N F, [I m]])) =
   some (if (lgT.lgs m 1 (xs.map (·.c))).1 = true then .loop .ret (qs bx (se7_11 (B true)) [Nb N F, [I (lgT.lgs m 1 (xs.map (·.c))).2]]) else .loop (.exit 2) (qs bx (se7_11 .dead) [Nb N F, [I (lgT.lgs m 1 (xs.map (·.c))).2]])) := by
  intro xs
  induction xs with
  | nil =>
   intro i m hd h1 h2
   rw [List.map_nil, lgT.lgs, if_neg (by simp)]
   exact es (large_e2 o1 o2 (by rw [hflen]; exact drop_nil hd))
  | cons x xs ih =>
   intro i m hd h1 h2
   obtain ⟨hget, hd', hlt⟩ := drop_cons hd
   obtain ⟨row, hrow, _, _, op, k, K, rfl, hT⟩ := hfr.2 i x hget
   have hr := large_r2 (res := lgT m 1 x.c) o1 hF hrow (by rw [hflen]; exact hlt) (by rw [hflen]; exact hmax2) (isT_one hT) (deep1 x.c hT h1 h2)
   rw [List.map_cons, lgT.lgs]
   by_cases hc : (lgT m 1 x.c).1 = true
   ·rw [if_pos hc] at hr
    rw [if_pos hc, if_pos rfl]
    exact es hr
   ·rw [if_neg hc] at hr
    rw [if_neg hc]
    have := lgT_ge x.c m 1
    exact es (hr.trans (ih (i + 1) _ hd' (lgT_lo x.c m 1 hc) (by omega)))
 have hl1 := loop1 n.nodes 0 2000 rfl (by omega) (by omega)
 have hl2 : (lgT.lgs 2000 1 (n.nodes.map (·.t))).1 = false -> _ := fun e => loop2 n.flows 0 (lgT.lgs 2000 1 (n.nodes.map (·.t))).2 rfl (lgT_lo.go _ 2000 1 (by omega) (by rw [e]; decide)) (by have := lgT_ge.go (n.nodes.map (·.t)) 2000 1; omega)
 rw [es (large_f hN hF c1 c2 hl1 hl2), largeN, <- hlen, <- hflen, c1, c2, Bool.false_or, Bool.false_or, lgL, termsN, lgs_app]
 congr 3
 split
 ·rename_i hc; rw [hc]; rfl
 ·rename_i hc
  rw [Bool.not_eq_true] at hc
  rw [hc, Bool.false_or]
theorem mkD_ne {k : Nat} {xs : List (List D)} (h : xs ≠ []) : mkD k xs = .sl k xs := by cases xs with | nil => exact absurd rfl h | cons => rfl
abbrev pF (w : Wb) (k : Int) : PV := Wy 9 0 0 (mkD 5 (cB.cBs w.ks)) (mkD 3 (w.ls.map lnkD)) k
abbrev pFc (w : Wb) (k : Int) : Box := [I 9, I 0, I 0, .dat (mkD 5 (cB.cBs w.ks)), .dat (mkD 3 (w.ls.map lnkD)), I k]
section
variable {n : Nt} {w : Wb} {N F : D}
theorem xW_eq (h1 : w.ks ≠ []) (h2 : w.ls ≠ []) : xW w = Wq 9 0 0 (.sl 5 (cB.cBs w.ks)) (.sl 3 (w.ls.map lnkD)) := by
 rw [xW, mkD_ne (by rw [cBs_map]; simpa using h1), mkD_ne (by simpa using h2)]
theorem xfold_without (hw : InvW n w) {s : Nat} (hs : s < w.ks.length) (c : Blk) {q : Nat} (hq : q < w.ls.length) {gone : List Int} {cut : List Nat} {C X : D} (hC : IsS 1 (iR gone) C) (hX : IsS 1 (nR cut) X) (hgl : gone.length < 1000 /\ cut.length < 1000) (bx : List Box) :
  ev cfg (.call 102 [Wq 9 0 0 (.sl 5 ((cB.cBs w.ks).set s (cB c))) (.sl 3 ((w.ls.map lnkD).set q [dI s, dI (lkW w.ls q).2.1, dI (lkW w.ls q).2.2])), Nq C X] bx) = Rq (xW (dropW ⟨w.ks.set s c, setFrom w.ls q s⟩ gone cut)) := by
 have hlens := hw.lens
 have hls : (setFrom w.ls q s).length = w.ls.length := by rw [setFrom, lls]
 have h := xwithout_ev (w := ⟨w.ks.set s c, setFrom w.ls q s⟩) (gone := gone) (cut := cut) (C := C) (X := X) ⟨by simp; omega, by simp only [hls]; omega⟩ (by
  simp only [lls]
  refine setFrom_rng (p := fun l => (-1 <= l.1 /\ l.1 < w.ks.length) /\ -1 <= l.2.1 /\ l.2.1 < w.ks.length) (fun l hl => ?_) (fun _ => ?_)
  ·have := hw.rng l hl; exact ⟨this.1, this.2.1⟩
  ·have := hw.rng _ (mog (lk_of hq)); exact ⟨⟨by omega, by omega⟩, this.2.1⟩) hC hX hgl bx
 have e1 : (cB.cBs w.ks).set s (cB c) = cB.cBs (w.ks.set s c) := cBs_set _ _ _
 have e2 : (w.ls.map lnkD).set q [dI s, dI (lkW w.ls q).2.1, dI (lkW w.ls q).2.2] = (setFrom w.ls q s).map lnkD := by
  rw [setFrom, List.map_set]; rfl
 rw [e1, e2]
 rw [xW_eq (by intro e; have := congrArg List.length e; simp at this; rw [this] at hs; cases hs) (by intro e; have := congrArg List.length e; rw [hls] at this; rw [this] at hq; cases hq)] at h
 exact h
theorem ks_ne {s : Nat} (hs : s < w.ks.length) : w.ks ≠ [] := by intro e; rw [e] at hs; cases hs
theorem ls_ne {q : Nat} (hq : q < w.ls.length) : w.ls ≠ [] := by intro e; rw [e] at hq; cases hq
theorem one_def (a : Nat) : oneAt w a = if gateW w.ks a = true then none else
  if (decide (toW w.ls (hd (outsW w.ls a)) < 0) || (toW w.ls (hd (outsW w.ls a)) == (a : Int) || gateW w.ks (toW w.ls (hd (outsW w.ls a))))) = true then none
  else some (dropW ⟨w.ks.set a (rowB (partsB ((kidW w.ks a).getD emptyB) ++ partsB ((kidW w.ks (toW w.ls (hd (outsW w.ls a)))).getD emptyB))), setFrom w.ls (hd (outsW w.ls (toW w.ls (hd (outsW w.ls a))))) a⟩ [toW w.ls (hd (outsW w.ls a))] [hd (outsW w.ls a)]) := rfl
theorem xparts_ne (hw : InvW n w) {a : Nat} {b : Blk} (hb : w.ks[a]? = some b) (bx : List Box) : ∃ x xs, partsB b = x :: xs /\ ev cfg (.call 100 [pB b] bx) = Rq (.dat (.sl 5 (cB x :: cB.cBs xs))) := by
 have hk := hw.kid a b hb
 have h := parts_ne hk.ne.1 hk.seq
 have h2 := xparts_ev b bx
 cases hp : partsB b with
 | nil => rw [hp] at h; cases h
 | cons x xs => rw [hp] at h2; exact ⟨x, xs, rfl, h2⟩
theorem parts_small (hw : InvW n w) {a : Nat} {b : Blk} (hb : w.ks[a]? = some b) : (partsB b).length <= 64 := by
 have h1 := szBs_len (xs := partsB b)
 have h2 := parts_size b
 have h3 := set_size (c := emptyB) hb
 have h4 := hw.size
 have h5 : szB b <= sizeW w.ks := by
  have h6 : 1 <= szB emptyB := szB_pos _
  have h7 := sizeAt_get hb
  have h8 := drop_size (ks := w.ks) (gone := fun x => x == a) (L := [a]) (by simp) (by simp)
  simp [h7] at h8
  omega
 omega
theorem xone_ev (hG : Gates n) (hN : IsN n N F) (hw : InvW n w) (bx : List Box) :
  ev cfg (.call 65 [Nq N F, xW w] bx) = Rq (match firstAt (oneAt w) 0 w.ks.length with | some x => pF x 1 | none => pF w 0) := by
 obtain ⟨oN, oF⟩ := xisN_one hN
 have hlens := hw.lens
 have hkl : (cB.cBs w.ks).length = w.ks.length := cBs_len _
 have hmax : (cB.cBs w.ks).length < 9223372036854775808 := by rw [hkl]; omega
 have loop : ∀ (m a : Nat), a + m = w.ks.length -> ev cfg (.loop 65 2 (qs bx (sh65_2 (P0 bx) (P1 bx) (P2 bx) (I (cB.cBs w.ks).length) (I a)) [Nb N F, Wx 9 0 0 (mkD 5 (cB.cBs w.ks)) (mkD 3 (w.ls.map lnkD)), [I 0, I 0, I 0, .dat .nil, .dat .nil, I 0]])) =
   some (match firstAt (oneAt w) a m with
   | some x => .loop .ret (qs bx (se65_2 (P1 bx) (P2 bx)) [Nb N F, Wx 9 0 0 (mkD 5 (cB.cBs w.ks)) (mkD 3 (w.ls.map lnkD)), pFc x 1])
   | none => .loop (.exit 0) (qs bx (se65_2 (P1 bx) (P2 bx)) [Nb N F, Wx 9 0 0 (mkD 5 (cB.cBs w.ks)) (mkD 3 (w.ls.map lnkD)), [I 0, I 0, I 0, .dat .nil, .dat .nil, I 0]])) := by
  intro m
  induction m with
  | zero =>
   intro a ha
   exact es (x1_end oN oF (mkD_one 5 _) (mkD_one 3 _) (by rw [hkl]; omega))
  | succ m ih =>
   intro a ha
   have hal : a < w.ks.length := by omega
   have halt : a < (cB.cBs w.ks).length := by rw [hkl]; exact hal
   have h3 := ih (a + 1) (by omega)
   have hga := xgate_ev hN hw (q := (a : Int)) (by omega)
   have hgz := gk_zero hw (q := (a : Int)) (by omega)
   rw [firstAt]
   cases hg : gateW w.ks a with
   | true =>
    rw [hg] at hgz
    have e : oneAt w a = none := by rw [one_def, if_pos hg]
    rw [e]
    exact es ((x1_gate oN oF (mkD_one 5 _) (mkD_one 3 _) halt hmax hga hgz).trans h3)
   | false =>
    rw [hg] at hgz
    obtain ⟨ho1, _⟩ := outs_one hw hal hg
    have hoa := xouts_ne hG hw (Int.natCast_nonneg a) (by omega)
    rw [ho1] at hoa
    have hol : hd (outsW w.ls a) < w.ls.length := (outsW_lt (x := (a : Int)) (by rw [ho1]; exact mcs)).1
    have hlk := lnk_getk hol
    have hrng := (hw.rng _ (mog (lk_of hol))).2.1
    have htw : (lkW w.ls (hd (outsW w.ls a))).2.1 = toW w.ls (hd (outsW w.ls a)) := rfl
    rw [htw] at hlk hrng
    rw [one_def, if_neg (by rw [hg]; exact fnt)]
    generalize ho : hd (outsW w.ls a) = o at *
    by_cases c1 : toW w.ls o < 0
    ·have d1 := dqt c1
     rw [if_pos (by rw [d1]; rfl)]
     exact es ((x1_neg oN oF (mkD_one 5 _) (mkD_isS 3 _) hlk halt hmax hga hgz hoa d1).trans h3)
    ·have d1 : decide (toW w.ls o < 0) = false := dqf c1
     cases c2 : (toW w.ls o == (a : Int)) with
     | true =>
      rw [if_pos (by simp)]
      exact es ((x1_self oN oF (mkD_one 5 _) (mkD_isS 3 _) hlk halt hmax hga hgz hoa d1 c2).trans h3)
     | false =>
      have hgb := xgate_ev hN hw hrng.2
      have hbz := gk_zero hw hrng.2
      cases hb : gateW w.ks (toW w.ls o) with
      | true =>
       rw [hb] at hbz
       rw [if_pos (by simp)]
       exact es ((x1_to oN oF (mkD_one 5 _) (mkD_isS 3 _) hlk halt hmax hga hgz hoa d1 c2 hgb hbz).trans h3)
      | false =>
       rw [hb] at hbz
       rw [if_neg (by simp [d1])]
       obtain ⟨b, hbn⟩ : ∃ b : Nat, toW w.ls o = b := ⟨(toW w.ls o).toNat, by omega⟩
       rw [hbn] at hrng hb c2 hgb hbz hlk ⊢
       have hbl : b < w.ks.length := by omega
       obtain ⟨hob1, _⟩ := outs_one hw hbl hb
       have hob := xouts_ne hG hw (Int.natCast_nonneg b) (by omega)
       rw [hob1] at hob
       have hql : hd (outsW w.ls b) < w.ls.length := (outsW_lt (x := (b : Int)) (by rw [hob1]; exact mcs)).1
       have hlq := lnk_getk hql
       generalize hqq : hd (outsW w.ls b) = q at *
       rw [kid_nat, kid_nat, gge hal, gge hbl]
       have hba : w.ks[a]? = some w.ks[a] := gge hal
       have hbb : w.ks[b]? = some w.ks[b] := gge hbl
       simp only [Option.getD_some]
       generalize w.ks[a] = ba at hba ⊢
       generalize w.ks[b] = bb at hbb ⊢
       have hra := cBs_get hba
       have hrb := cBs_get hbb
       have hs1 := parts_small hw hba
       have hs2 := parts_small hw hbb
       obtain ⟨x1, xs1, e1, _⟩ := xparts_ne hw hba []
       obtain ⟨x2, xs2, e2, _⟩ := xparts_ne hw hbb []
       have hp1 := xparts_ev ba
       have hp2 := xparts_ev bb
       rw [e1] at hp1 hs1 ⊢
       rw [e2] at hp2 hs2 ⊢
       have hr := xrow_ev (bs := (x1 :: xs1) ++ (x2 :: xs2)) (.inl rfl)
       generalize rowB ((x1 :: xs1) ++ (x2 :: xs2)) = rb at hr ⊢
       rw [cBs_app] at hr
       have hwt := xfold_without hw hal rb hql (gone := [(b : Int)]) (cut := [o]) (C := .sl 1 [[dI b]]) (X := .sl 1 [[dI o]]) (mkD_isS 1 [[dI (b : Int)]]) (mkD_isS 1 [[dI (o : Int)]]) ⟨by simp, by simp⟩
       obtain ⟨k1, n1, a1, ks1, ls1⟩ := ba
       obtain ⟨k2, n2, a2, ks2, ls2⟩ := bb
       obtain ⟨rk, rn, ra, rks, rls⟩ := rb
       have eW := xW_eq (ks_ne hal) (ls_ne hol)
       have eK : mkD 5 (cB.cBs w.ks) = .sl 5 (cB.cBs w.ks) := mkD_ne (by rw [cBs_map]; simpa using ks_ne hal)
       have eL : mkD 3 (w.ls.map lnkD) = .sl 3 (w.ls.map lnkD) := mkD_ne (by simpa using ls_ne hol)
       have hcp := xcopied_ev (w := w) (by omega) (by omega)
       rw [mkS_ne (by rw [cBs_map]; simpa using ks_ne hal), mkS_ne (by simpa using ls_ne hol)] at hcp
       rw [eW] at hga hoa hgb hob hcp
       rw [eK, eL]
       simp only [List.length_cons] at hs1 hs2
       exact es (x1_fdd (rs1 := cB.cBs xs1) (rs2 := cB.cBs xs2) (r1 := cB x1) (r2 := cB x2) oN oF halt hmax hga hgz hoa hlk c2 hgb hbz hcp hra hrb (mkD_one 5 _) (mkD_one 3 _) (mkD_one 5 _) (mkD_one 3 _) hp1 hp2 (by rw [cBs_len]; omega) (by rw [cBs_len, cBs_len]; omega) hr (mkD_one 5 _) (mkD_one 3 _) hob hlq hwt (mkD_one 5 _) (mkD_one 3 _))
 have h := loop w.ks.length 0 (by omega)
 cases hf : firstAt (oneAt w) 0 w.ks.length with
 | none =>
  rw [hf] at h
  exact es (x1_none oN oF (mkD_isS 5 _) (mkD_one 3 _) h)
 | some x =>
  rw [hf] at h
  exact es (x1_some oN oF (mkD_isS 5 _) (mkD_one 3 _) (mkD_one 5 _) (mkD_one 3 _) h)
end
section
variable {n : Nt} {w : Wb} {bx : List Box} {l : Nat} {N F : D}
theorem round_step {os cs gs ws : List (List D)} {s lv : Int} {i : Nat} {y : Wz} {z0 z1 z2 z3 z4 : Box} (hl : l < bx.length) (y0 : z0.all (cellLt (bx.length + 5)) = true) (y1 : z1.all (cellLt (bx.length + 5)) = true) (y2 : z2.all (cellLt (bx.length + 5)) = true) (y3 : z3.all (cellLt (bx.length + 5)) = true) (y4 : z4.all (cellLt (bx.length + 5)) = true)
  (hget : ws[i]? = some (wyR y)) (hlt : i < ws.length) (hmax : ws.length < 1000) (hgs : gs.length < 1000) :
  Jq (.loop 64 18 (qs bx (sh64_18 (.ptr l 0) (I s) (.own true 1 os) (I lv) (P4 bx) (.own true 1 cs) (.own true 1 gs) (.own true 3 ws) (I ws.length) (I i)) [z0, z1, z2, z3, z4])) =
   ev cfg (.loop 64 18 (qs bx (sh64_18 (.ptr l 0) (I s) (.own true 1 os) (I lv) (P4 bx) (.own true 1 cs) (.own true 1 (gs ++ if 0 <= y.by_ then [[dI y.by_]] else [])) (.own true 3 ws) (I ws.length) (I ((i + 1 : Nat) : Int))) [z0, z1, z2, z3, z4])) := by
 by_cases h0 : 0 <= y.by_
 ·rw [if_pos h0]
  exact fround_i1 hl y0 y1 y2 y3 y4 hget hlt (by omega) (dqt h0) (by omega)
 ·rw [if_neg h0, List.append_nil]
  exact fround_i0 hl y0 y1 y2 y3 y4 hget hlt (by omega) (dqf h0)
theorem round_loop {os cs : List (List D)} {s lv : Int} {sj : Int} {d g : Wz} (hl : l < bx.length) (z0 z1 z2 z3 z4 : Box) (y0 : z0.all (cellLt (bx.length + 5)) = true) (y1 : z1.all (cellLt (bx.length + 5)) = true) (y2 : z2.all (cellLt (bx.length + 5)) = true) (y3 : z3.all (cellLt (bx.length + 5)) = true) (y4 : z4.all (cellLt (bx.length + 5)) = true) :
  ev cfg (.loop 64 18 (qs bx (sh64_18 (.ptr l 0) (I s) (.own true 1 os) (I lv) (P4 bx) (.own true 1 cs) (.own true 1 [[dI sj]]) (.own true 3 [wyR d, wyR g]) (I ((2 : Nat) : Int)) (I 0)) [z0, z1, z2, z3, z4])) =
   some (.loop (.exit 2) (qs bx (se64_18 (.ptr l 0) (I s) (.own true 1 os) (I lv) (P4 bx) (.own true 1 cs) (.own true 1 (iR ([sj] ++ [d.by_, g.by_].filter fun x => decide (0 <= x))))) [z0, z1, z2, z3, z4])) := by
 have e : iR ([sj] ++ [d.by_, g.by_].filter fun x => decide (0 <= x)) = ([[dI sj]] ++ if 0 <= d.by_ then [[dI d.by_]] else []) ++ if 0 <= g.by_ then [[dI g.by_]] else [] := by
  by_cases h1 : 0 <= d.by_ <;> by_cases h2 : 0 <= g.by_ <;> simp [h1, h2, iR]
 rw [e]
 have h1 := round_step (ws := [wyR d, wyR g]) (i := 0) (y := d) (os := os) (cs := cs) (gs := [[dI sj]]) (s := s) (lv := lv) hl y0 y1 y2 y3 y4 rfl (by simp) (by simp) (by simp)
 have h2 := round_step (ws := [wyR d, wyR g]) (i := 1) (y := g) (os := os) (cs := cs) (gs := [[dI sj]] ++ if 0 <= d.by_ then [[dI d.by_]] else []) (s := s) (lv := lv) hl y0 y1 y2 y3 y4 rfl (by simp) (by simp) (by split <;> simp)
 have h3 := fround_iend (l := l) (ws := [wyR d, wyR g]) (os := os) (cs := cs) (s := s) (lv := lv) (gs := ([[dI sj]] ++ if 0 <= d.by_ then [[dI d.by_]] else []) ++ if 0 <= g.by_ then [[dI g.by_]] else []) hl y0 y1 y2 y3 y4 (m := 2) (i := 2) (Nat.le_refl _)
 exact es (h1.trans (es (h2.trans (es h3))))
theorem three_eq {j : Nat} : threeAt n w j = if (gkW n w j != 5 || (insW w.ls j).length != 2 || (outsW w.ls j).length != 1) = true then none
  else if (gkW n w (followW w (hd (outsW w.ls j))).to != 5 || (outsW w.ls (followW w (hd (outsW w.ls j))).to).length != 2) = true then none
  else if ((followW w ((outsW w.ls (followW w (hd (outsW w.ls j))).to).getD 0 0)).to == (j : Int)) = ((followW w ((outsW w.ls (followW w (hd (outsW w.ls j))).to).getD 1 0)).to == (j : Int)) then none
  else if ((followW w ((outsW w.ls (followW w (hd (outsW w.ls j))).to).getD 1 0)).to == (j : Int)) = true then
   some (dropW ⟨w.ks.set j (.mk 7 (nodeW w.ks (followW w (hd (outsW w.ls j))).to) 0 [partW w (followW w (hd (outsW w.ls j))), partW w (followW w ((outsW w.ls (followW w (hd (outsW w.ls j))).to).getD 1 0))] []), setFrom w.ls ((outsW w.ls (followW w (hd (outsW w.ls j))).to).getD 0 0) j⟩
    ([(followW w (hd (outsW w.ls j))).to] ++ ([(followW w (hd (outsW w.ls j))).by_, (followW w ((outsW w.ls (followW w (hd (outsW w.ls j))).to).getD 1 0)).by_].filter (fun x => decide (0 <= x))))
    [hd (outsW w.ls j), (followW w (hd (outsW w.ls j))).last, (outsW w.ls (followW w (hd (outsW w.ls j))).to).getD 1 0, (followW w ((outsW w.ls (followW w (hd (outsW w.ls j))).to).getD 1 0)).last])
  else
   some (dropW ⟨w.ks.set j (.mk 7 (nodeW w.ks (followW w (hd (outsW w.ls j))).to) 1 [partW w (followW w (hd (outsW w.ls j))), partW w (followW w ((outsW w.ls (followW w (hd (outsW w.ls j))).to).getD 0 0))] []), setFrom w.ls ((outsW w.ls (followW w (hd (outsW w.ls j))).to).getD 1 0) j⟩
    ([(followW w (hd (outsW w.ls j))).to] ++ ([(followW w (hd (outsW w.ls j))).by_, (followW w ((outsW w.ls (followW w (hd (outsW w.ls j))).to).getD 0 0)).by_].filter (fun x => decide (0 <= x))))
    [hd (outsW w.ls j), (followW w (hd (outsW w.ls j))).last, (outsW w.ls (followW w (hd (outsW w.ls j))).to).getD 0 0, (followW w ((outsW w.ls (followW w (hd (outsW w.ls j))).to).getD 0 0)).last]) := by
 unfold threeAt
 simp only
 split
 ·rfl
 ·split
  ·rfl
  ·split
   ·rfl
   ·split <;> rename_i h <;> simp [h]
theorem round_at (hG : Gates n) (hN : IsN n N F) (hw : InvW n w) (hB : FB bx l N F w) {j : Nat} (hj : j < w.ks.length) :
  match threeAt n w j with
  | none => Jq (.loop 64 2 (q0 bx (sh64_2 (.ptr l 0) (I (cB.cBs w.ks).length) (I j)))) = ev cfg (.loop 64 2 (q0 bx (sh64_2 (.ptr l 0) (I (cB.cBs w.ks).length) (I ((j + 1 : Nat) : Int)))))
  | some x => Jq (.loop 64 2 (q0 bx (sh64_2 (.ptr l 0) (I (cB.cBs w.ks).length) (I j)))) = some (.loop .ret ⟨(se64_2 (B true)), bx.set l (fbox N F x), bx.length, some l, false⟩) := by
 have hlens := hw.lens
 have hkl : (cB.cBs w.ks).length = w.ks.length := cBs_len _
 have hlt : j < (cB.cBs w.ks).length := by rw [hkl]; exact hj
 have hmax : (cB.cBs w.ks).length < 9223372036854775808 := by rw [hkl]; omega
 have h1 := isW_ev (kd := 5) hN hw hB.lt hB.get (show (j : Int) < w.ks.length by omega) (by decide) false
 by_cases c1 : gkW n w j = 5 /\ (outsW w.ls j).length = 1
 case neg =>
  have e : ((gkW n w j == 5) && (decide (((outsW w.ls j).length : Int) > 1) == false)) = false := by
   by_cases h5 : gkW n w j = 5
   ·obtain ⟨_, _, _, _, _, _, _, _, hc⟩ := gate_ok hG hw (s := j) (by rw [h5]; decide)
    have : decide (((outsW w.ls j).length : Int) > 1) = true := dqt (by omega)
    rw [this]; simp
   ·rw [show (gkW n w j == 5) = false from beq_eq_false_iff_ne.2 h5]; rfl
  rw [e] at h1
  have ht : threeAt n w j = none := by
   rw [three_eq, if_pos]
   simp only [Bool.or_eq_true, bne_iff_ne, ne_eq]
   omega
  rw [ht]
  exact fround_p1 hB.lt hB.get hlt hmax h1
 obtain ⟨g5, o1⟩ := c1
 have e : ((gkW n w j == 5) && (decide (((outsW w.ls j).length : Int) > 1) == false)) = true := by
  rw [g5, o1]; rfl
 rw [e] at h1
 have h2 := insW_ev hB.lt hB.get (by omega) (j : Int)
 have hins : ∃ k ks, insW w.ls j = k :: ks := by
  obtain ⟨_, _, _, _, _, _, _, _, hc⟩ := gate_ok hG hw (s := j) (by rw [g5]; decide)
  cases hi : insW w.ls j with
  | nil => rw [hi] at hc; simp at hc
  | cons k ks => exact ⟨k, ks, rfl⟩
 obtain ⟨ik, iks, hik⟩ := hins
 have h2 : ev cfg (.call 83 [.ptr l 0, I j] bx) = Rq (.own true 1 (nR (insW w.ls j))) := by rw [h2, hik]; rfl
 by_cases c2 : (insW w.ls j).length = 2
 case neg =>
  have n2 : (((nR (insW w.ls j)).length : Int) != 2) = true := by rw [nR_len]; simp; omega
  have ht : threeAt n w j = none := by
   rw [three_eq, if_pos]
   simp only [Bool.or_eq_true, bne_iff_ne, ne_eq]
   omega
  rw [ht]
  exact fround_p2 hB.lt hB.get hlt hmax h1 h2 n2
 have n2 : (((nR (insW w.ls j)).length : Int) != 2) = false := by rw [nR_len, c2]; rfl
 have hth := three_eq (n := n) (w := w) (j := j)
 rw [if_neg (by rw [g5, c2, o1]; decide)] at hth
 have hjo := hd_one o1
 have hol : hd (outsW w.ls j) < w.ls.length := (outsW_lt (hd_mem (by omega))).1
 have h3 := outsW_ev hB.lt hB.get (by omega) (j : Int)
 rw [hth]
 clear hth
 rw [hjo] at h3
 generalize hqo : hd (outsW w.ls j) = oj at *
 have h3 : ev cfg (.call 84 [.ptr l 0, I j] bx) = Rq (.own true 1 ([dI oj] :: [])) := h3
 have h4 := followW_ev hw hB.lt hB.get hol
 have hdlt := to_lt hw hol
 have h5 : ∀ r : Box, _ := fun r : Box => isW_ev (kd := 5) hN hw (hB.ex [r]).lt (hB.ex [r]).get hdlt (by decide) true
 have h6 : ∀ r : Box, _ := fun r : Box => outsW_ev (hB.ex [r]).lt (hB.ex [r]).get (by omega) (followW w oj).to
 by_cases c3 : gkW n w (followW w oj).to = 5 /\ (outsW w.ls (followW w oj).to).length > 1
 case neg =>
  have e : ((gkW n w (followW w oj).to == 5) && (decide (((outsW w.ls (followW w oj).to).length : Int) > 1) == true)) = false := by
   by_cases h5 : gkW n w (followW w oj).to = 5
   ·have : decide (((outsW w.ls (followW w oj).to).length : Int) > 1) = false := dqf (by omega)
    rw [this]; simp
   ·rw [show (gkW n w (followW w oj).to == 5) = false from beq_eq_false_iff_ne.2 h5]; rfl
  rw [e] at h5
  rw [if_pos (by simp only [Bool.or_eq_true, bne_iff_ne, ne_eq]; omega)]
  exact fround_p3 hB.lt hB.get hlt hmax h1 h2 n2 h3 h4 h5
 obtain ⟨gs5, os1⟩ := c3
 have e : ((gkW n w (followW w oj).to == 5) && (decide (((outsW w.ls (followW w oj).to).length : Int) > 1) == true)) = true := by
  rw [gs5, dqt (show ((outsW w.ls (followW w oj).to).length : Int) > 1 by omega)]; rfl
 rw [e] at h5
 by_cases c4 : (outsW w.ls (followW w oj).to).length = 2
 case neg =>
  rw [if_pos (by simp only [Bool.or_eq_true, bne_iff_ne, ne_eq]; omega)]
  have h6' : ∀ r : Box, ev cfg (.call 84 [.ptr l 0, I (followW w oj).to] (bx ++ [r])) = Rq (.own true 1 (nR (outsW w.ls (followW w oj).to))) := fun r => by
   rw [h6 r]
   cases ho : outsW w.ls (followW w oj).to with
   | nil => rw [ho] at os1; simp at os1
   | cons => rfl
  exact fround_p4 hB.lt hB.get hlt hmax h1 h2 n2 h3 h4 h5 h6' (by rw [nR_len]; simp; omega)
 rw [if_neg (by rw [gs5, c4]; decide)]
 have hso := two_list c4
 have hoal : (outsW w.ls (followW w oj).to).getD 0 0 < w.ls.length /\ (outsW w.ls (followW w oj).to).getD 1 0 < w.ls.length := by
  constructor
  ·refine (outsW_lt (x := (followW w oj).to) ?_).1
   rw [hso]; simp
  ·refine (outsW_lt (x := (followW w oj).to) ?_).1
   rw [hso]; simp
 generalize (outsW w.ls (followW w oj).to).getD 0 0 = oa at *
 generalize (outsW w.ls (followW w oj).to).getD 1 0 = ob at *
 obtain ⟨hal, hbl⟩ := hoal
 have h6' : ∀ r : Box, ev cfg (.call 84 [.ptr l 0, I (followW w oj).to] (bx ++ [r])) = Rq (.own true 1 [[dI oa], [dI ob]]) := fun r => by
  rw [h6 r, hso]; rfl
 have h7 : ∀ r : Box, _ := fun r : Box => followW_ev hw (hB.ex [r]).lt (hB.ex [r]).get hal
 have h8 : ∀ r : Box, _ := fun r : Box => followW_ev hw (hB.ex [r]).lt (hB.ex [r]).get hbl
 by_cases c5 : ((followW w oa).to == (j : Int)) = ((followW w ob).to == (j : Int))
 ·rw [if_pos c5]
  exact fround_p5 hB.lt hB.get hlt hmax h1 h2 n2 h3 h4 h5 h6' h7 h8 (by rw [c5]; simp)
 rw [if_neg c5]
 have hd0 : ¬ (followW w oj).to < 0 := by
  intro hh
  rw [gkW, gateW, kidW, if_pos hh] at gs5
  simp at gs5
 obtain ⟨s, hs⟩ : ∃ s : Nat, (followW w oj).to = s := ⟨(followW w oj).to.toNat, by omega⟩
 have hsl : s < w.ks.length := by omega
 have hks := gge hsl
 have hkj := gge hj
 have hnode : nodeW w.ks (followW w oj).to = w.ks[s].nd := by rw [hs, nodeW, kid_nat, hks]
 have hpd : ∀ r1 r2 r3 r4 : Box, _ := fun r1 r2 r3 r4 : Box => partW_ev (ls := w.ls) (hB.ex [r1, r2, r3, r4]).lt (hB.ex [r1, r2, r3, r4]).get (by_lt hw hol)
 have hpa : ∀ r1 r2 r3 r4 : Box, _ := fun r1 r2 r3 r4 : Box => partW_ev (ls := w.ls) (hB.ex [r1, r2, r3, r4]).lt (hB.ex [r1, r2, r3, r4]).get (by_lt hw hal)
 have hpb : ∀ r1 r2 r3 r4 : Box, _ := fun r1 r2 r3 r4 : Box => partW_ev (ls := w.ls) (hB.ex [r1, r2, r3, r4]).lt (hB.ex [r1, r2, r3, r4]).get (by_lt hw hbl)
 have hoj : ∀ r0 r1 r2 r3 r4 : Box, ev cfg (.call 84 [.ptr l 0, I j] (bx ++ [r0, r1, r2, r3, r4])) = Rq (.own true 1 ([dI oj] :: [])) := fun r0 r1 r2 r3 r4 => by
  have hE := hB.ex [r0, r1, r2, r3, r4]
  rw [outsW_ev hE.lt hE.get (by omega), hjo]; rfl
 have hrs := cBs_get hks
 have hrj := cBs_get hkj
 rw [hnode]
 have key : ∀ (lv : Int) (g : Wz) (p q : Nat), q < w.ls.length -> g = followW w q -> p < w.ls.length -> ∀ (r0 r1 r2 r3 r4 : Box), ev cfg (.call 93 [.ptr l 0, .dat (.sl 1 (iR ([(followW w oj).to] ++ [(followW w oj).by_, g.by_].filter fun x => decide (0 <= x)))), .dat (.sl 1 [[dI oj], [dI (followW w oj).last], [dI q], [dI g.last]])] (bx.set l [.dat N, .dat F, .own true 5 ((cB.cBs w.ks).set j (cB (.mk 7 w.ks[s].nd lv [partW w (followW w oj), partW w g] []))), .own true 3 ((w.ls.map lnkD).set p [dI (j : Nat), dI (lkW w.ls p).2.1, dI (lkW w.ls p).2.2])] ++ [r0, r1, r2, r3, r4])) =
   some (.ret (.tup []) (some ⟨bx.set l (fbox N F (dropW ⟨w.ks.set j (.mk 7 w.ks[s].nd lv [partW w (followW w oj), partW w g] []), setFrom w.ls p j⟩ ([(followW w oj).to] ++ [(followW w oj).by_, g.by_].filter fun x => decide (0 <= x)) [oj, (followW w oj).last, q, g.last])) ++ [r0, r1, r2, r3, r4], l, false⟩)) := by
  intro lv g p q hql hg hpl r0 r1 r2 r3 r4
  generalize hP : Blk.mk 7 w.ks[s].nd lv [partW w (followW w oj), partW w g] [] = P
  have hFB2 : FB (bx.set l [.dat N, .dat F, .own true 5 (cB.cBs (w.ks.set j P)), .own true 3 ((setFrom w.ls p j).map lnkD)]) l N F ⟨w.ks.set j P, setFrom w.ls p j⟩ := FB.set (w := w) (w' := ⟨w.ks.set j P, setFrom w.ls p j⟩) hB
  have hE := hFB2.ex [r0, r1, r2, r3, r4]
  have hfl : ([(followW w oj).by_, g.by_].filter fun x => decide (0 <= x)).length <= 2 := List.length_filter_le _ _
  have h := dropW_ev (w := ⟨w.ks.set j P, setFrom w.ls p j⟩) (gone := [(followW w oj).to] ++ [(followW w oj).by_, g.by_].filter fun x => decide (0 <= x)) (cut := [oj, (followW w oj).last, q, g.last]) (X := .sl 1 (iR ([(followW w oj).to] ++ [(followW w oj).by_, g.by_].filter fun x => decide (0 <= x)))) (Z := .sl 1 [[dI oj], [dI (followW w oj).last], [dI q], [dI g.last]]) (by simp only [lls, setFrom_len]; omega) (by
   simp only [lls]
   refine setFrom_rng (fun l hl => ⟨(hw.rng l hl).1, (hw.rng l hl).2.1⟩) fun hk => ⟨?_, (hw.rng _ (mog (lk_of hk))).2.1⟩
   constructor
   ·show (-1 : Int) <= (j : Int); omega
   ·show (j : Int) < _; omega) hE.lt hE.get ⟨1, rfl, by simp, rfl⟩ ⟨1, rfl, by simp, rfl⟩ (by rw [List.length_append]; simp; omega)
  rw [setFrom_map, <- cBs_set] at h
  rw [h, set_app (by simpa using hB.lt), List.set_set]
 have hform : ∀ (lv : Int) (g : Wz), cB (.mk 7 w.ks[s].nd lv [partW w (followW w oj), partW w g] []) = [dI 7, dI w.ks[s].nd, dI lv, .sl 5 [cB (partW w (followW w oj)), cB (partW w g)], .nil] := fun _ _ => rfl
 have hnd : ∀ b : Blk, ∃ k a K L, cB b = [dI k, dI b.nd, dI a, K, L] := by
  intro b; obtain ⟨k, nn, a, ks, ls⟩ := b; exact ⟨k, a, _, _, rfl⟩
 have hpm : ∀ y, partW ⟨w.ks, w.ls⟩ y = partW w y := fun _ => rfl
 simp only [hpm] at hpd hpa hpb
 simp only [hform] at key
 obtain ⟨k1, a1, K1, L1, e1⟩ := hnd w.ks[s]
 obtain ⟨k2, a2, K2, L2, e2⟩ := hnd w.ks[j]
 rw [e1] at hrs
 rw [e2] at hrj
 clear hform hnd e1 e2 hpm
 rw [hs] at h4 h5 h6' hpd key ⊢
 generalize followW w oj = d at *
 generalize partW w d = pd at *
 by_cases c6 : ((followW w ob).to == (j : Int)) = true
 ·rw [if_pos c6]
  have c7 : ((followW w oa).to == (j : Int)) = false := by
   cases h : ((followW w oa).to == (j : Int)) with
   | false => rfl
   | true => exact absurd (h.trans c6.symm) c5
  have hk := key 0 (followW w ob) oa ob hbl rfl hal
  have hin := fun z0 z1 z2 z3 z4 y0 y1 y2 y3 y4 => round_loop (os := [[dI oa], [dI ob]]) (cs := [[dI oj], [dI d.last], [dI ob], [dI (followW w ob).last]]) (s := (j : Int)) (lv := 0) (sj := (s : Int)) (d := d) (g := followW w ob) hB.lt z0 z1 z2 z3 z4 y0 y1 y2 y3 y4
  generalize followW w ob = g at *
  generalize hpg : partW w g = pg at *
  obtain ⟨qk, qn, qa, qks, qls⟩ := pd
  obtain ⟨rk, rn, ra, rks, rls⟩ := pg
  obtain ⟨dto, dby, dla⟩ := d
  simp only at hs
  subst hs
  exact fround_go0 (dby := dby) (dla := (dla : Nat)) hB.lt hB.get hlt hmax h1 h2 n2 h3 h4 h5 h6' h7 h8 c7 c6 hrj hrs (mkD_one 5 _) (mkD_one 3 _) (mkD_one 5 _) (mkD_one 3 _) hpd hpb hoj hin (lnk_getk hal) hk
 ·rw [if_neg c6]
  rw [Bool.not_eq_true] at c6
  have c7 : ((followW w oa).to == (j : Int)) = true := by
   cases h : ((followW w oa).to == (j : Int)) with
   | true => rfl
   | false => exact absurd (h.trans c6.symm) c5
  have hk := key 1 (followW w oa) ob oa hal rfl hbl
  have hin := fun z0 z1 z2 z3 z4 y0 y1 y2 y3 y4 => round_loop (os := [[dI oa], [dI ob]]) (cs := [[dI oj], [dI d.last], [dI oa], [dI (followW w oa).last]]) (s := (j : Int)) (lv := 1) (sj := (s : Int)) (d := d) (g := followW w oa) hB.lt z0 z1 z2 z3 z4 y0 y1 y2 y3 y4
  generalize followW w oa = g at *
  generalize hpg : partW w g = pg at *
  obtain ⟨qk, qn, qa, qks, qls⟩ := pd
  obtain ⟨rk, rn, ra, rks, rls⟩ := pg
  obtain ⟨dto, dby, dla⟩ := d
  simp only at hs
  subst hs
  exact fround_go1 (dby := dby) (dla := (dla : Nat)) hB.lt hB.get hlt hmax h1 h2 n2 h3 h4 h5 h6' h7 h8 c7 c6 hrj hrs (mkD_one 5 _) (mkD_one 3 _) (mkD_one 5 _) (mkD_one 3 _) hpd hpa hoj hin (lnk_getk hbl) hk
end
end Go.Proofs.YtifckjhggamefaaGreatDoor
