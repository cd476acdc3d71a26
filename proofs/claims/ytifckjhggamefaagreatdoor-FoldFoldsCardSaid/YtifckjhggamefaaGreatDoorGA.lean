/- What Fold answers. No condition. -/
import Derived.Test.YtifckjhggamefaaGreatDoorGz
import Derived.Test.YtifckjhggamefaaGreatDoorGb
import Derived.Test.YtifckjhggamefaaGreatDoorGc
import Derived.Test.YtifckjhggamefaaGreatDoorGx
import Derived.Test.YtifckjhggamefaaGreatDoorGy
import Derived.Test.YtifckjhggamefaaGreatDoorGw
import Derived.Test.YtifckjhggamefaaGreatDoorGk
import Derived.Test.YtifckjhggamefaaGreatDoorGp
set_option linter.unusedSimpArgs false
set_option linter.unusedVariables false
set_option linter.unusedSectionVars false
namespace Go.Proofs.YtifckjhggamefaaGreatDoor
open Go Go.Vx
set_option maxRecDepth 10000
set_option maxHeartbeats 1000000
def resW (w : Wb) : Blk := match w.ks with
 | [] => emptyB
 | [b] => if (!(b.kd == 8) && w.ls.length == 2) = true then b else .mk 9 0 0 w.ks w.ls
 | _ => .mk 9 0 0 w.ks w.ls
def foldN (n : Nt) : Blk := resW (foldsW n 100 (beginW n))
section
variable {n : Nt} {N F : D}
theorem nil_step {bx : List Box} {l : Nat} {Y : PV} (hl : l < bx.length) (hb : bx[l]? = some [.dat N, .dat F, .dat .nil, Y]) : ev cfg (.call 28 [.ptr l 0] bx) = Rq (I 0) :=
 es (fstep_0 hl (es (finrow_nil hl hb (es (finrow_end (m := 0) (i := 0) hl (Nat.le_refl _))))) (es (fclosed_nil hl hb (es (fclosed_end (m := 0) (i := 0) hl (Nat.le_refl _))))) (es (fround_nil hl hb (es (fround_end (m := 0) (i := 0) hl (Nat.le_refl _))))))
theorem next_nil {n : Nt} {w : Wb} (h : w.ks = []) : nextW n w = (w, 0) := by
 unfold nextW; rw [h]; rfl
theorem folds_nil {n : Nt} {w : Wb} (h : w.ks = []) (k : Nat) : foldsW n k w = w := folds_stop (by rw [next_nil h]) (by rw [next_nil h]) k
theorem fold_ev (h : IsN n N F) (hfl : n.flows.length <= 1000) (hnd : n.nodes.length <= 1000) (hz : ∀ t ∈ termsN n, sizeT t <= 1000000) (bx : List Box) :
  (OkN n -> ev cfg (.call 9 [Nq N F] bx) = Rq (.tup [pB (foldN n), I 0])) ∧
  (¬ OkN n -> ev cfg (.call 9 [Nq N F] bx) = Rq (.tup [Wq 0 0 0 .nil .nil, I 4])) := by
 obtain ⟨o1, o2⟩ := isN_one h
 refine ⟨fun hok => ?_, fun hno => ?_⟩
 case refine_2 => exact es (fFold_err o1 o2 (fun r0 r1 => (begin_ev h hfl hnd hz _).2 hno) rfl)
 have hG := ok_gates hok
 have hw := begin_inv hok
 have hb : ∀ r0 r1 : Box, _ := fun r0 r1 : Box => (begin_ev h hfl hnd hz (bx ++ [r0, r1])).1 hok
 rw [foldN]
 generalize beginW n = w at *
 have hkl : (cB.cBs w.ks).length <= 1000 := by rw [cBs_len]; have := hw.lens; omega
 have hll : (w.ls.map lnkD).length <= 1000 := by rw [List.length_map]; have := hw.lens; omega
 have ho : ∀ r0 r1 r2 : Box, ev cfg (.call 27 [Nq N F, Wq 9 0 0 (mkD 5 (cB.cBs w.ks)) (mkD 3 (w.ls.map lnkD))] (bx ++ [r0, r1, r2])) =
   some (.ret (P5 bx) (some ⟨bx ++ [r0, r1, r2, Nb N F, Wx 9 0 0 (mkD 5 (cB.cBs w.ks)) (mkD 3 (w.ls.map lnkD)), fbox N F w], bx.length + 3, false⟩)) := fun r0 r1 r2 => by
  have e : (bx ++ [r0, r1, r2]).length = bx.length + 3 := by simp
  have h := es (fof_f (bx := bx ++ [r0, r1, r2]) (k := 9) (n := 0) (a := 0) o1 o2 (mkD_one 5 (cB.cBs w.ks)) (mkD_one 3 (w.ls.map lnkD)) (fun bx => clone5_ev hkl bx) fun bx => clone3_ev hll bx)
  have e2 : P2 (bx ++ [r0, r1, r2]) = P5 bx := congrArg (fun m => PV.ptr (m + 2) 0) e
  rw [e, e2, List.append_assoc] at h
  exact h
 have c1 := mkD_one 5 (cB.cBs w.ks)
 have c2 := mkD_one 3 (w.ls.map lnkD)
 by_cases hk : w.ks = []
 ·rw [folds_nil hk, resW, hk]
  have hfb : fbox N F w = [.dat N, .dat F, .dat .nil, mkS 3 (w.ls.map lnkD)] := by rw [fbox, hk]; rfl
  rw [hfb] at ho
  refine es (fFold_empty o1 o2 c1 c2 hb ho (es (fFold_stop rfl rfl rfl rfl rfl ?_ (nil_step (N := N) (F := F) (Y := mkS 3 (w.ls.map lnkD)) (by simp) ?_))))
  ·cases w.ls.map lnkD <;> rfl
  ·rw [gar (by omega), show bx.length + 5 - bx.length = 5 by omega]; rfl
 ·have hloop := fold_loop (bx := bx) (z0 := (Nb N F)) (z1 := E6) (z2 := (Wx 9 0 0 (mkD 5 (cB.cBs w.ks)) (mkD 3 (w.ls.map lnkD)))) (z3 := (Nb N F)) (z4 := (Wx 9 0 0 (mkD 5 (cB.cBs w.ks)) (mkD 3 (w.ls.map lnkD)))) hG h o1 o2 rfl rfl rfl rfl rfl 100 w hw hk (by have := hw.lens; omega)
  have hwf := folds_inv hG 100 hw
  have hkf := folds_ne hG 100 hw hk
  generalize foldsW n 100 w = wf at *
  have hlf := web_ls hwf hG hkf
  rw [fbox_ne hkf hlf] at hloop
  have hFB : FB (bx ++ [Nb N F, E6, Wx 9 0 0 (mkD 5 (cB.cBs w.ks)) (mkD 3 (w.ls.map lnkD)), Nb N F, Wx 9 0 0 (mkD 5 (cB.cBs w.ks)) (mkD 3 (w.ls.map lnkD)), [.dat N, .dat F, .own true 5 (cB.cBs wf.ks), .own true 3 (wf.ls.map lnkD)]]) (bx.length + 5) N F wf :=
   ⟨by simp, by rw [gar (by omega), show bx.length + 5 - bx.length = 5 by omega]; rfl, o1, o2⟩
  obtain ⟨c, hwb⟩ := web_ev hwf hG hkf hFB
  rw [List.set_append_right _ _ (by omega), show bx.length + 5 - bx.length = 5 by omega] at hwb
  have hwb : ev cfg (.call 30 [P5 bx] (bx ++ [Nb N F, E6, Wx 9 0 0 (mkD 5 (cB.cBs w.ks)) (mkD 3 (w.ls.map lnkD)), Nb N F, Wx 9 0 0 (mkD 5 (cB.cBs w.ks)) (mkD 3 (w.ls.map lnkD)), [.dat N, .dat F, .own true 5 (cB.cBs wf.ks), .own true 3 (wf.ls.map lnkD)]])) =
    some (.ret (Wq 9 0 0 (mkD 5 (cB.cBs wf.ks)) (mkD 3 (wf.ls.map lnkD))) (some ⟨bx ++ [Nb N F, E6, Wx 9 0 0 (mkD 5 (cB.cBs w.ks)) (mkD 3 (w.ls.map lnkD)), Nb N F, Wx 9 0 0 (mkD 5 (cB.cBs w.ks)) (mkD 3 (w.ls.map lnkD)), c], bx.length + 5, false⟩)) := hwb
  have hg := gateW_ev hFB.lt hFB.get (q := 0) (by cases hq : wf.ks with | nil => exact absurd hq hkf | cons => simp)
  have n0 : (((cB.cBs wf.ks).length : Int) == 0) = false := by
   rw [cBs_len, beq_eq_false_iff_ne]
   cases hq : wf.ks with
   | nil => exact absurd hq hkf
   | cons => simp; omega
  have hweb : pB (.mk 9 0 0 wf.ks wf.ls) = Wq 9 0 0 (mkD 5 (cB.cBs wf.ks)) (mkD 3 (wf.ls.map lnkD)) := rfl
  have hg0 : ∀ b bs, wf.ks = b :: bs -> gateW wf.ks 0 = (b.kd == 8) := fun b bs e => gate_iff (i := 0) (by rw [e]; rfl)
  match hq : wf.ks, hkf with
  | [b], _ =>
   have n1 : (((cB.cBs wf.ks).length : Int) == 1) = true := by rw [hq]; rfl
   rw [hg0 b [] hq] at hg
   rw [resW, hq]
   simp only
   by_cases hb8 : (b.kd == 8) = true
   ·rw [hb8] at hg
    rw [if_neg (by rw [hb8]; simp)]
    rw [<- hq, hweb]
    exact es (fFold_gate o1 o2 c1 c2 hb ho hloop n0 n1 hg hwb (mkD_one 5 _) (mkD_one 3 _))
   ·rw [Bool.not_eq_true] at hb8
    rw [hb8] at hg
    by_cases h2 : (wf.ls.length == 2) = true
    ·rw [if_pos (by rw [hb8, h2]; rfl)]
     have hr : (cB.cBs wf.ks)[0]? = some (cB b) := by rw [hq]; rfl
     have n2 : (((wf.ls.map lnkD).length : Int) == 2) = true := by
      rw [List.length_map]; simp at h2 ⊢; omega
     obtain ⟨k, nn, a, ks, ls⟩ := b
     exact es (fFold_one o1 o2 c1 c2 hb ho hloop n0 n1 hg n2 hr (mkD_one 5 _) (mkD_one 3 _))
    ·rw [Bool.not_eq_true] at h2
     rw [if_neg (by rw [h2]; simp)]
     have n2 : (((wf.ls.map lnkD).length : Int) == 2) = false := by
      rw [List.length_map]; simp at h2 ⊢; omega
     rw [<- hq, hweb]
     exact es (fFold_links o1 o2 c1 c2 hb ho hloop n0 n1 hg n2 hwb (mkD_one 5 _) (mkD_one 3 _))
  | b :: b' :: bs, _ =>
   have n1 : (((cB.cBs wf.ks).length : Int) == 1) = false := by
    rw [cBs_len, hq, beq_eq_false_iff_ne]; simp; omega
   rw [resW, hq]
   simp only
   rw [<- hq, hweb]
   exact es (fFold_many o1 o2 c1 c2 hb ho hloop n0 n1 hwb (mkD_one 5 _) (mkD_one 3 _))
end
section
variable {n : Nt} {N F : D}
theorem xbegin_ev (h : IsN n N F) (hok : OkN n) (bx : List Box) : ev cfg (.call 14 [Nq N F] bx) = Rq (xW (beginW n)) := by
 obtain ⟨o1, o2⟩ := xisN_one h
 obtain ⟨nr, fr, hN, hnr, _, hF, hfr, _⟩ := h
 have hlen : nr.length = n.nodes.length := hnr.1
 have hflen : fr.length = n.flows.length := hfr.1
 have hn24 := hok.1
 have hf40 := hok.2.1
 have hE := ok_ends hok
 have loop1 : ∀ (xs : List Nd) (i m : Nat) (acc : List Blk), n.nodes.drop i = xs -> m = xs.length -> acc.length = rank (goneN n) i -> acc.length <= i →
   ev cfg (.loop 14 4 (qs bx (sh14_4 (P0 bx) (P1 bx) (P2 bx) (.own true 1 (prB n i m)) (.dat N) (I nr.length) (I i)) [Nb N F, E6, [I 9, I 0, I 0, mkS 5 (cB.cBs acc), .dat .nil]])) =
    some (.loop (.exit 0) (qs bx (se14_4 (P0 bx) (P1 bx) (P2 bx) (.own true 1 (prB n (i + m) 0))) [Nb N F, E6, [I 9, I 0, I 0, mkS 5 (cB.cBs (acc ++ dropK (goneN n) i (allB i xs))), .dat .nil]])) := by
  intro xs
  induction xs with
  | nil =>
   intro i m acc hd hm _ _
   have hm0 : m = 0 := hm
   subst hm0
   rw [allB, dropK, List.append_nil]
   exact es (xb_nend o1 o2 (by rw [hlen]; exact drop_nil hd))
  | cons x xs ih =>
   intro i m acc hd hm ha hai
   obtain ⟨hget, hd', hlt⟩ := drop_cons hd
   have hm1 : m = xs.length + 1 := hm
   subst hm1
   obtain ⟨row, hrow, _, _, op, mm, K, rfl, hT⟩ := hnr.2 i x hget
   have hlti : i < nr.length := by rw [hlen]; exact hlt
   have hmx : nr.length < 9223372036854775808 := by omega
   have hKT := isT_one hT
   have hge : goneN n i = isEnd x := by rw [goneN, hget]
   have hrk := right_kind (hok.2.2.1 x (mog hget))
   rw [show i + (xs.length + 1) = i + 1 + xs.length by omega, allB, dropK]
   by_cases hend : isEnd x = true
   ·rw [if_pos (by rw [hge]; exact hend)]
    have hpl : placeN n i = -1 := by rw [placeN, if_pos (by rw [hge]; exact hend)]
    have h2 := ih (i + 1) xs.length acc hd' rfl (by rw [rank_gone (by rw [hge]; exact hend)]; exact ha) (by omega)
    have hset := prB_set (n := n) (i := i) (m := xs.length)
    rw [hpl] at hset
    have h3 : decide (x.k < 3) = true := by
     rw [isEnd, Bool.or_eq_true, beq_iff_eq, beq_iff_eq] at hend
     exact dqt (by omega)
    have hrr := xb_end (ks := cB.cBs acc) (bx := bx) hN o2 hrow hKT hlti hmx (prB_get (n := n) (m := xs.length)) h3
    rw [hset] at hrr
    exact es (hrr.trans h2)
   ·have hgf : goneN n i = false := by rw [hge]; simpa using hend
    rw [if_neg (by rw [hgf]; exact fnt)]
    have hpl : placeN n i = (acc.length : Nat) := by rw [placeN, if_neg (by rw [hgf]; exact fnt), ha]
    have h2 := ih (i + 1) xs.length (acc ++ [beginB i x]) hd' rfl (by rw [rank_succ hgf, <- ha]; simp) (by simp; omega)
    rw [List.append_assoc] at h2
    have hset := prB_set (n := n) (i := i) (m := xs.length)
    rw [hpl] at hset
    have hks : ((cB.cBs acc).length + 1) * 72 <= 140737488355328 := by rw [cBs_len]; omega
    have h3 : decide (x.k < 3) = false := by
     rw [isEnd, Bool.or_eq_true, beq_iff_eq, beq_iff_eq] at hend
     exact dqf (by omega)
    have happ : mkS 5 (cB.cBs (acc ++ [beginB i x])) = .own true 5 (cB.cBs acc ++ [cB (beginB i x)]) := by rw [cBs_app]; exact mkS_app 5 _ _
    rw [happ] at h2
    have hset' : (prB n i (xs.length + 1)).set i [dI ((cB.cBs acc).length : Nat)] = prB n (i + 1) xs.length := by rw [cBs_len]; exact hset
    by_cases hk : x.k = 5 ∨ x.k = 6 ∨ x.k = 7
    ·have eB : cB (beginB i x) = [dI 8, dI i, dI 0, .nil, .nil] := by rw [beginB, if_pos hk]; rfl
     rw [eB] at h2
     have k5 : decide (x.k >= 5) = true := dqt (by omega)
     have k7 : decide (x.k <= 7) = true := dqt (by omega)
     cases acc with
     | nil =>
      have hrr := xb_gate0 (bx := bx) hN o2 hrow hKT hlti hmx (prB_get (n := n) (m := xs.length)) h3 k5 k7
      rw [show [dI ((0 : Nat) : Int)] = [dI (([] : List Blk).length : Nat)] from rfl, hset] at hrr
      exact es (hrr.trans h2)
     | cons c acc =>
      have hrr := xb_gate1 (bx := bx) (ks := cB.cBs (c :: acc)) hN o2 hrow hKT hlti hmx (prB_get (n := n) (m := xs.length)) h3 k5 k7 hks
      rw [hset'] at hrr
      exact es (hrr.trans h2)
    ·have eB : cB (beginB i x) = [dI 2, dI i, dI 0, .nil, .nil] := by rw [beginB, if_neg hk]; rfl
     rw [eB] at h2
     have kb : (decide (x.k >= 5) && decide (x.k <= 7)) = false := by
      rw [Bool.and_eq_false_iff]
      by_cases h5 : x.k >= 5
      ·exact .inr (dqf (by omega))
      ·exact .inl (dqf h5)
     cases acc with
     | nil =>
      have hrr := xb_leaf0 (bx := bx) hN o2 hrow hKT hlti hmx (prB_get (n := n) (m := xs.length)) h3 kb
      rw [show [dI ((0 : Nat) : Int)] = [dI (([] : List Blk).length : Nat)] from rfl, hset] at hrr
      exact es (hrr.trans h2)
     | cons c acc =>
      have hrr := xb_leaf1 (bx := bx) (ks := cB.cBs (c :: acc)) hN o2 hrow hKT hlti hmx (prB_get (n := n) (m := xs.length)) h3 kb hks
      rw [hset'] at hrr
      exact es (hrr.trans h2)
 have loop2 : ∀ (xs : List Fl) (i : Nat) (acc : List Lk), n.flows.drop i = xs -> acc.length <= i →
   ev cfg (.loop 14 15 (qs bx (sh14_15 (P1 bx) (P2 bx) (.own true 1 (prB n n.nodes.length 0)) (.dat F) (I fr.length) (I i)) [Nb N F, E6, [I 9, I 0, I 0, mkS 5 (cB.cBs (beginW n).ks), mkS 3 (acc.map lnkD)]])) =
    some (.loop (.exit 2) (qs bx (se14_15 (P1 bx) (P2 bx)) [Nb N F, E6, [I 9, I 0, I 0, mkS 5 (cB.cBs (beginW n).ks), mkS 3 ((acc ++ beginL n i xs).map lnkD)]])) := by
  intro xs
  induction xs with
  | nil =>
   intro i acc hd _
   rw [beginL, List.append_nil]
   exact es (xb_lend o1 o2 (by rw [hflen]; exact drop_nil hd))
  | cons f fs ih =>
   intro i acc hd ha
   obtain ⟨hget, hd', hlt⟩ := drop_cons hd
   obtain ⟨row, hrow, _, _, op, mm, K, rfl, hT⟩ := hfr.2 i f hget
   have hf := hE f (mog hget)
   have e1 : f.fr = ((f.fr.toNat : Nat) : Int) := by omega
   have e2 : f.to = ((f.to.toNat : Nat) : Int) := by omega
   rw [e1, e2] at hrow
   have hp := prB_end (n := n) (show f.fr.toNat < n.nodes.length by omega)
   have hq := prB_end (n := n) (show f.to.toNat < n.nodes.length by omega)
   have h2 := ih (i + 1) (acc ++ [(placeN n f.fr.toNat, placeN n f.to.toNat, (i : Int))]) hd' (by simp; omega)
   rw [List.append_assoc, List.map_append, List.map_append] at h2
   have hlti : i < fr.length := by rw [hflen]; exact hlt
   have hmx : fr.length < 9223372036854775808 := by omega
   rw [beginL, List.map_append]
   have hsn : mkS 3 (acc.map lnkD ++ [lnkD (placeN n f.fr.toNat, placeN n f.to.toNat, (i : Int))]) = .own true 3 (acc.map lnkD ++ [[dI (placeN n f.fr.toNat), dI (placeN n f.to.toNat), dI i]]) := mkS_app 3 _ _
   rw [show List.map lnkD [(placeN n f.fr.toNat, placeN n f.to.toNat, (i : Int))] = [lnkD (placeN n f.fr.toNat, placeN n f.to.toNat, (i : Int))] from rfl, hsn] at h2
   cases acc with
   | nil => exact es ((xb_l0 (bx := bx) (ks := cB.cBs (beginW n).ks) o1 hF hrow (isT_one hT) hlti hmx hp hq).trans h2)
   | cons c acc => exact es ((xb_l1 (bx := bx) (ks := cB.cBs (beginW n).ks) (ls := (c :: acc).map lnkD) o1 hF hrow (isT_one hT) hlti hmx hp hq (by rw [List.length_map]; omega)).trans h2)
 have h1 := loop1 n.nodes 0 n.nodes.length [] rfl rfl rfl (Nat.le_refl _)
 have h2 := loop2 n.flows 0 [] rfl (Nat.le_refl _)
 rw [Nat.zero_add, List.nil_append] at h1
 rw [List.nil_append] at h2
 refine es (xb_f (pr := prB n n.nodes.length 0) (ks := cB.cBs (beginW n).ks) (ls := (beginW n).ls.map lnkD) hN hF (by omega) ?_ h2)
 have e : prB n 0 n.nodes.length = List.replicate nr.length [dI 0] := by rw [prB, hlen]; rfl
 rw [e] at h1
 exact h1
theorem xnext_ev (hG : Gates n) (hN : IsN n N F) {w : Wb} (hw : InvW n w) (bx : List Box) : ev cfg (.call 31 [Nq N F, xW w] bx) = Rq (pF (nextW n w).1 (nextW n w).2) := by
 obtain ⟨o1, o2⟩ := xisN_one hN
 have h1 := xone_ev hG hN hw
 have h2 := xtwo_ev hG hN hw
 have h3 := xthree_ev hG hN hw
 rw [nextW]
 cases e1 : firstAt (oneAt w) 0 w.ks.length with
 | some x =>
  rw [e1] at h1
  exact es (xn_a o1 o2 (mkD_one 5 _) (mkD_one 3 _) h1 (mkD_one 5 _) (mkD_one 3 _))
 | none =>
  rw [e1] at h1
  cases e2 : firstAt (twoAt n w) 0 w.ks.length with
  | some x =>
   rw [e2] at h2
   exact es (xn_b o1 o2 (mkD_one 5 _) (mkD_one 3 _) h1 (mkD_one 5 _) (mkD_one 3 _) h2 (mkD_one 5 _) (mkD_one 3 _))
  | none =>
   rw [e2] at h2
   cases e3 : firstAt (threeAt n w) 0 w.ks.length with
   | some x =>
    rw [e3] at h3
    exact es (xn_c o1 o2 (mkD_one 5 _) (mkD_one 3 _) h1 (mkD_one 5 _) (mkD_one 3 _) h2 (mkD_one 5 _) (mkD_one 3 _) h3 (mkD_one 5 _) (mkD_one 3 _))
   | none =>
    rw [e3] at h3
    exact es (xn_c o1 o2 (mkD_one 5 _) (mkD_one 3 _) h1 (mkD_one 5 _) (mkD_one 3 _) h2 (mkD_one 5 _) (mkD_one 3 _) h3 (mkD_one 5 _) (mkD_one 3 _))
theorem xfold_ev (h : IsN n N F) (hfl : n.flows.length <= 1000) (hnd : n.nodes.length <= 1000) (hz : ∀ t ∈ termsN n, sizeT t <= 1000000) (bx : List Box) :
  (OkN n -> ev cfg (.call 10 [Nq N F] bx) = Rq (.tup [pB (foldN n), I 0])) ∧
  (¬ OkN n -> ev cfg (.call 10 [Nq N F] bx) = Rq (.tup [Wq 0 0 0 .nil .nil, I 4])) := by
 obtain ⟨o1, o2⟩ := xisN_one h
 obtain ⟨r, q, hr, hck⟩ := rncheck_ev h hfl hnd hz
 refine ⟨fun hok => ?_, fun hno => ?_⟩
 case refine_2 =>
  have : r ≠ 0 := fun e => hno (hr.1 e)
  exact es (xF_err o1 o2 hck (by simpa using this))
 have hr0 : (r != 0) = false := by simpa using hr.2 hok
 have hG := ok_gates hok
 have hw := begin_inv hok
 have hb := xbegin_ev h hok
 have loop : ∀ (m k : Nat) (w : Wb), k + m = 100 -> InvW n w -> ev cfg (.loop 10 5 (qs bx (sh10_5 (P0 bx) (P1 bx) (P2 bx) (I k)) [Nb N F, E6, Wx 9 0 0 (mkD 5 (cB.cBs w.ks)) (mkD 3 (w.ls.map lnkD))])) =
   some (.loop (.exit 0) (qs bx (se10_5 (P0 bx) (P1 bx) (P2 bx)) [Nb N F, E6, Wx 9 0 0 (mkD 5 (cB.cBs (foldsW n m w).ks)) (mkD 3 ((foldsW n m w).ls.map lnkD))])) := by
  intro m
  induction m with
  | zero =>
   intro k w hk _
   have hk' : k = 100 := hk
   subst hk'
   exact es (xF_end o1 o2 (mkD_one 5 _) (mkD_one 3 _))
  | succ m ih =>
   intro k w hk hw
   exact es ((xF_round o1 o2 (mkD_one 5 _) (mkD_one 3 _) (by omega) (xnext_ev hG h hw) (mkD_one 5 _) (mkD_one 3 _)).trans (ih (k + 1) (nextW n w).1 (by omega) (next_inv hG hw).1))
 have hl := loop 100 0 (beginW n) rfl hw
 have hwf := folds_inv hG 100 hw
 rw [foldN]
 generalize foldsW n 100 (beginW n) = wf at *
 have hkl : (cB.cBs wf.ks).length = wf.ks.length := cBs_len _
 by_cases hk : wf.ks = []
 ·rw [resW, hk]
  have n0 : (((cB.cBs wf.ks).length : Int) == 0) = true := by rw [hk]; rfl
  exact es (xF_empty o1 o2 hck hr0 hb (mkD_one 5 _) (mkD_one 3 _) hl (mkD_isS 5 _) (mkD_one 3 _) n0)
 ·have n0 : (((cB.cBs wf.ks).length : Int) == 0) = false := by
   rw [hkl, beq_eq_false_iff_ne]
   cases hq : wf.ks with
   | nil => exact absurd hq hk
   | cons => simp; omega
  have hg := xgate_ev h hwf (q := 0) (by cases hq : wf.ks with | nil => exact absurd hq hk | cons => simp)
  have hgz := gk_zero hwf (q := 0) (by cases hq : wf.ks with | nil => exact absurd hq hk | cons => simp)
  match hq : wf.ks, hk with
  | [b], _ =>
   have hg0 : gateW wf.ks 0 = (b.kd == 8) := gate_iff (i := 0) (by rw [hq]; rfl)
   rw [hg0] at hgz
   have n1 : (((cB.cBs wf.ks).length : Int) == 1) = true := by rw [hq]; rfl
   rw [resW, hq]
   simp only
   by_cases hb8 : (b.kd == 8) = true
   ·rw [hb8] at hgz
    rw [if_neg (by rw [hb8]; simp), <- hq]
    exact es (xF_gate o1 o2 hck hr0 hb (mkD_one 5 _) (mkD_one 3 _) hl (mkD_isS 5 _) (mkD_one 3 _) n0 n1 hg (by rw [bne] at hgz; simpa using hgz))
   ·rw [Bool.not_eq_true] at hb8
    rw [hb8] at hgz
    have hg1 : (gkW n wf 0 == 0) = true := by rw [bne] at hgz; simpa using hgz
    by_cases h2 : (wf.ls.length == 2) = true
    ·rw [if_pos (by rw [hb8, h2]; rfl)]
     have hrw : (cB.cBs wf.ks)[0]? = some (cB b) := by rw [hq]; rfl
     have n2 : (((wf.ls.map lnkD).length : Int) == 2) = true := by
      rw [List.length_map]; simp at h2 ⊢; omega
     obtain ⟨k, nn, a, ks, ls⟩ := b
     exact es (xF_one o1 o2 hck hr0 hb (mkD_one 5 _) (mkD_one 3 _) hl (mkD_isS 5 _) (mkD_isS 3 _) n0 n1 hg hg1 n2 hrw (mkD_one 5 _) (mkD_one 3 _))
    ·rw [Bool.not_eq_true] at h2
     rw [if_neg (by rw [h2]; simp), <- hq]
     have n2 : (((wf.ls.map lnkD).length : Int) == 2) = false := by
      rw [List.length_map]; simp at h2 ⊢; omega
     exact es (xF_links o1 o2 hck hr0 hb (mkD_one 5 _) (mkD_one 3 _) hl (mkD_isS 5 _) (mkD_isS 3 _) n0 n1 hg hg1 n2)
  | b :: b' :: bs, _ =>
   have n1 : (((cB.cBs wf.ks).length : Int) == 1) = false := by
    rw [hkl, hq, beq_eq_false_iff_ne]; simp; omega
   rw [resW, hq]
   simp only
   rw [<- hq]
   exact es (xF_many o1 o2 hck hr0 hb (mkD_one 5 _) (mkD_one 3 _) hl (mkD_isS 5 _) (mkD_one 3 _) n0 n1)
end
def tz : Trm := .mk 0 0 []
def tyes : Trm := .mk 10 0 [.mk 2 0 [], .mk 2 0 []]
def nalt : Nt := ⟨[⟨1, 0, tz⟩, ⟨5, 0, tz⟩, ⟨3, 0, tz⟩, ⟨5, 0, tz⟩, ⟨2, 0, tz⟩], [⟨0, 1, false, tz⟩, ⟨1, 2, false, tyes⟩, ⟨1, 3, true, tz⟩, ⟨2, 3, false, tz⟩, ⟨3, 4, false, tz⟩]⟩
def balt : Blk := .mk 5 1 0 [.mk 2 2 0 [] [], .mk 1 0 0 [] []] []
theorem i64_s {x : Int} (h : -1000 <= x /\ x <= 1000) : i64 x := by
 constructor <;> omega
theorem tz_is : IsT tz 0 0 .nil := by
 rw [tz, IsT]
 exact ⟨rfl, rfl, i64_s (by omega), i64_s (by omega), [], ⟨0, rfl, by simp, rfl⟩, by rw [IsT.IsTs], by simp⟩
theorem leaf_is : IsT (.mk 2 0 []) 2 0 .nil := by
 rw [IsT]
 exact ⟨rfl, rfl, i64_s (by omega), i64_s (by omega), [], ⟨0, rfl, by simp, rfl⟩, by rw [IsT.IsTs], by simp⟩
theorem tyes_is : IsT tyes 10 0 (.sl 3 [[dI 2, dI 0, .nil], [dI 2, dI 0, .nil]]) := by
 rw [tyes, IsT]
 refine ⟨rfl, rfl, i64_s (by omega), i64_s (by omega), _, ⟨3, rfl, by simp, rfl⟩, ?_, by simp⟩
 rw [IsT.IsTs]
 refine ⟨_, _, _, _, rfl, leaf_is, ?_⟩
 rw [IsT.IsTs]
 exact ⟨_, _, _, _, rfl, leaf_is, by rw [IsT.IsTs]⟩
theorem nalt_is : IsN nalt altN altF := by
 refine ⟨_, _, ⟨5, rfl, by simp, rfl⟩, ⟨rfl, fun i x hx => ?_⟩, by simp [nalt], ⟨6, rfl, by simp, rfl⟩, ⟨rfl, fun i x hx => ?_⟩, by simp [nalt]⟩
 ·match i, hx with
  | 0, hx => obtain rfl := sij hx; exact ⟨_, rfl, i64_s (by show (-1000 : Int) <= 1 /\ (1 : Int) <= 1000; omega), i64_s (by show (-1000 : Int) <= 0 /\ (0 : Int) <= 1000; omega), _, _, _, rfl, tz_is⟩
  | 1, hx => obtain rfl := sij hx; exact ⟨_, rfl, i64_s (by show (-1000 : Int) <= 5 /\ (5 : Int) <= 1000; omega), i64_s (by show (-1000 : Int) <= 0 /\ (0 : Int) <= 1000; omega), _, _, _, rfl, tz_is⟩
  | 2, hx => obtain rfl := sij hx; exact ⟨_, rfl, i64_s (by show (-1000 : Int) <= 3 /\ (3 : Int) <= 1000; omega), i64_s (by show (-1000 : Int) <= 0 /\ (0 : Int) <= 1000; omega), _, _, _, rfl, tz_is⟩
  | 3, hx => obtain rfl := sij hx; exact ⟨_, rfl, i64_s (by show (-1000 : Int) <= 5 /\ (5 : Int) <= 1000; omega), i64_s (by show (-1000 : Int) <= 0 /\ (0 : Int) <= 1000; omega), _, _, _, rfl, tz_is⟩
  | 4, hx => obtain rfl := sij hx; exact ⟨_, rfl, i64_s (by show (-1000 : Int) <= 2 /\ (2 : Int) <= 1000; omega), i64_s (by show (-1000 : Int) <= 0 /\ (0 : Int) <= 1000; omega), _, _, _, rfl, tz_is⟩
  | i + 5, hx => simp [nalt] at hx
 ·match i, hx with
  | 0, hx => obtain rfl := sij hx; exact ⟨_, rfl, i64_s (by show (-1000 : Int) <= 0 /\ (0 : Int) <= 1000; omega), i64_s (by show (-1000 : Int) <= 1 /\ (1 : Int) <= 1000; omega), _, _, _, rfl, tz_is⟩
  | 1, hx => obtain rfl := sij hx; exact ⟨_, rfl, i64_s (by show (-1000 : Int) <= 1 /\ (1 : Int) <= 1000; omega), i64_s (by show (-1000 : Int) <= 2 /\ (2 : Int) <= 1000; omega), _, _, _, rfl, tyes_is⟩
  | 2, hx => obtain rfl := sij hx; exact ⟨_, rfl, i64_s (by show (-1000 : Int) <= 1 /\ (1 : Int) <= 1000; omega), i64_s (by show (-1000 : Int) <= 3 /\ (3 : Int) <= 1000; omega), _, _, _, rfl, tz_is⟩
  | 3, hx => obtain rfl := sij hx; exact ⟨_, rfl, i64_s (by show (-1000 : Int) <= 2 /\ (2 : Int) <= 1000; omega), i64_s (by show (-1000 : Int) <= 3 /\ (3 : Int) <= 1000; omega), _, _, _, rfl, tz_is⟩
  | 4, hx => obtain rfl := sij hx; exact ⟨_, rfl, i64_s (by show (-1000 : Int) <= 3 /\ (3 : Int) <= 1000; omega), i64_s (by show (-1000 : Int) <= 4 /\ (4 : Int) <= 1000; omega), _, _, _, rfl, tz_is⟩
  | i + 5, hx => simp [nalt] at hx
theorem check_yes : checkT tyes = (2, 0) := by
 first | rfl | decide | simp [checkT, tyes]
theorem nalt_ok : OkN nalt := by
 have e01 : Edge nalt 0 1 := ⟨_, mcs, rfl, rfl⟩
 have e12 : Edge nalt 1 2 := ⟨⟨1, 2, false, tyes⟩, by simp [nalt], rfl, rfl⟩
 have e13 : Edge nalt 1 3 := ⟨⟨1, 3, true, tz⟩, by simp [nalt], rfl, rfl⟩
 have e23 : Edge nalt 2 3 := ⟨⟨2, 3, false, tz⟩, by simp [nalt], rfl, rfl⟩
 have e34 : Edge nalt 3 4 := ⟨⟨3, 4, false, tz⟩, by simp [nalt], rfl, rfl⟩
 have f0 : Rch (EdgeB nalt false) 0 0 := .refl
 have f1 := f0.step (c := 1) (by simpa [EdgeB] using e01)
 have f2 := f1.step (c := 2) (by simpa [EdgeB] using e12)
 have f3 := f1.step (c := 3) (by simpa [EdgeB] using e13)
 have f4 := f3.step (c := 4) (by simpa [EdgeB] using e34)
 have g4 : Rch (EdgeB nalt true) 4 4 := .refl
 have g3 := g4.step (c := 3) (by simpa [EdgeB] using e34)
 have g2 := g3.step (c := 2) (by simpa [EdgeB] using e23)
 have g1 := g3.step (c := 1) (by simpa [EdgeB] using e13)
 have g0 := g1.step (c := 0) (by simpa [EdgeB] using e01)
 have hs : startN nalt = 0 := rfl
 have he : endN nalt = 4 := rfl
 have h2 : ofT tyes 2 = true := by rw [ofT, check_yes]; rfl
 refine ⟨by simp [nalt], by simp [nalt], fun x hx => ?_, fun f hf => ?_, fun i hi => ?_, by rw [hs]; omega, by rw [he]; omega, fun i hi => ?_⟩
 ·simp only [nalt, List.mem_cons, List.not_mem_nil, or_false] at hx
  rcases hx with rfl | rfl | rfl | rfl | rfl <;> rfl
 ·have l1 : leadsN ofT nalt ⟨1, 2, false, tyes⟩ = true := by
   show ((true && true && true && (if kindN nalt 1 ≠ 5 ∨ (outsN nalt 1).length < 2 then _ else if false = true then _ else ofT tyes 2)) = true)
   rw [if_neg (by decide), if_neg (by decide), h2]; rfl
  simp only [nalt, List.mem_cons, List.not_mem_nil, or_false] at hf
  rcases hf with rfl | rfl | rfl | rfl | rfl
  ·rfl
  ·exact l1
  ·rfl
  ·rfl
  ·rfl
 ·have hi : i < 5 := hi
  match i, hi with
  | 0, _ => rfl
  | 1, _ => rfl
  | 2, _ => rfl
  | 3, _ => rfl
  | 4, _ => rfl
 ·rw [hs, he]
  have hi : i < 5 := hi
  match i, hi with
  | 0, _ => exact ⟨f0, g0⟩
  | 1, _ => exact ⟨f1, g1⟩
  | 2, _ => exact ⟨f2, g2⟩
  | 3, _ => exact ⟨f3, g3⟩
  | 4, _ => exact ⟨f4, g4⟩
def walt : Wb := ⟨[balt], [(-1, 0, 0), (0, -1, 4)]⟩
theorem nalt_next : nextW nalt (beginW nalt) = (walt, 2) := by rfl
theorem walt_next : nextW nalt walt = (walt, 0) := by rfl
theorem nalt_fold : foldN nalt = balt := by
 have h : foldsW nalt 100 (beginW nalt) = walt := by
  show foldsW nalt 99 (nextW nalt (beginW nalt)).1 = walt
  rw [nalt_next]
  exact folds_stop (by rw [walt_next]) (by rw [walt_next]) 99
 rw [foldN, h]; rfl
end Go.Proofs.YtifckjhggamefaaGreatDoor
