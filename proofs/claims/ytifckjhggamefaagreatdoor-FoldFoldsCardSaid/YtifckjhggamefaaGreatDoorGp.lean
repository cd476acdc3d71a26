/- Rounds of the law's 'deep' and 'large'. No condition. -/
import Derived.Test.YtifckjhggamefaaGreatDoorAt
import Derived.Test.YtifckjhggamefaaGreatDoorGo
import Derived.Test.YtifckjhggamefaaGreatDoorGl
import Derived.Test.YtifckjhggamefaaGreatDoorGd
import Derived.Test.YtifckjhggamefaaGreatDoorGe
import Derived.Test.YtifckjhggamefaaGreatDoorPb
set_option linter.unusedSimpArgs false
set_option linter.unusedVariables false
set_option linter.unusedSectionVars false
namespace Go.Proofs.YtifckjhggamefaaGreatDoor
open Go Go.Vx
set_option maxHeartbeats 4000000
set_option maxRecDepth 10000
theorem ldeep_round {bx : List Box} {l : Nat} {m d : Int} {c : Box} {rows : List (List D)} {K K' : D} {i : Nat} {op n : Int} {res : Bool × Int} (hK : IsS 3 rows K) (hl : l < bx.length) (hb : bx[l]? = some [I m]) (hc : c.all (cellLt (bx.length + 1)) = true)
  (hget : rows[i]? = some [dI op, dI n, K']) (hlt : i < rows.length) (hmax : rows.length < 9223372036854775808) (hd : IntKind.wrap .i64 (d + 1) = d + 1) (hk : Oq K')
  (hcall : ∀ bx : List Box, bx[l]? = some [I m] -> l < bx.length -> ev cfg (.call 25 [Tq op n K', .ptr l 0, I (d + 1)] bx) = some (.ret (B res.1) (some ⟨bx.set l [I res.2], l, false⟩))) :
  Jq (.loop 25 5 ⟨(sh25_5 (.ptr l 0) (I d) (.dat K) (I rows.length) (I i)), bx ++ [c], bx.length, some l, false⟩) =
   if res.1 = true then some (.loop .ret ⟨(se25_5 (B true)), bx.set l [I res.2] ++ [c], bx.length, some l, false⟩)
   else ev cfg (.loop 25 5 ⟨(sh25_5 (.ptr l 0) (I d) (.dat K) (I rows.length) (I ((i + 1 : Nat) : Int))), bx.set l [I res.2] ++ [c], bx.length, some l, false⟩) := by
 obtain ⟨w, h1, h2, h3⟩ := hK
 obtain rfl := isS_w h2 hget
 have hcall' : ∀ r : Box, ev cfg (.call 25 [Tq op n K', .ptr l 0, I (d + 1)] (bx ++ [c, r])) = some (.ret (B res.1) (some ⟨bx.set l [I res.2] ++ [c, r], l, false⟩)) := by
  intro r
  rw [hcall _ (by rw [get_old hl]; exact hb) (by simp; omega), set_old hl]
 cases hres : res.1 <;> simp (maxSteps:=9000000) only [go_sem, seval, h1, h3, hk, nat_lt hlt, nat_neg, tnc, hget, hd, hcall', hres, hl, hc, nat_succ hlt hmax, Nat.min_self]
theorem ldeep_end {bx : List Box} {l : Nat} {d : Int} {c : Box} {n i : Nat} {K : D} (hl : l < bx.length) (hc : c.all (cellLt (bx.length + 1)) = true) (hge : n <= i) :
  Jq (.loop 25 5 ⟨(sh25_5 (.ptr l 0) (I d) (.dat K) (I n) (I i)), bx ++ [c], bx.length, some l, false⟩) = some (.loop (.exit 0) ⟨(se25_5 .dead), bx ++ [c], bx.length, some l, false⟩) := by
 simp (maxSteps:=9000000) only [go_sem, seval, nat_ge hge, hl, hc]
theorem ldeep_first {bx : List Box} {l : Nat} {m d : Int} {ks : List Trm} {op n : Int} {rows : List (List D)} {K : D} {res : Bool × Int} (hK : IsS 3 rows K) (hl : l < bx.length) (hb : bx[l]? = some [I m]) (hm : IntKind.wrap .i64 (m - 1) = m - 1) (hrl : rows.length = ks.length)
  (hloop : decide (m - 1 < 0) = false -> decide (d > 40) = false -> ∀ c : Box, c.all (cellLt (bx.length + 1)) = true -> ev cfg (.loop 25 5 ⟨(sh25_5 (.ptr l 0) (I d) (.dat K) (I rows.length) (I 0)), bx.set l [I (m - 1)] ++ [c], bx.length, some l, false⟩) =
   some (if res.1 = true then .loop .ret ⟨(se25_5 (B true)), bx.set l [I res.2] ++ [c], bx.length, some l, false⟩ else .loop (.exit 0) ⟨(se25_5 .dead), bx.set l [I res.2] ++ [c], bx.length, some l, false⟩)) :
  Jq (.call 25 [Tq op n K, .ptr l 0, I d] bx) =
   if (decide (m - 1 < 0) || decide (d > 40) || decide ((ks.length : Int) > 50)) = true then some (.ret (B true) (some ⟨bx.set l [I (m - 1)], l, false⟩)) else some (.ret (B res.1) (some ⟨bx.set l [I res.2], l, false⟩)) := by
 obtain ⟨w, h1, h2, h3⟩ := hK
 cases c1 : decide (m - 1 < 0)
 ·cases c2 : decide (d > 40)
  ·cases c3 : decide ((ks.length : Int) > 50)
   ·have hloop' := hloop c1 c2 [I op, I n, .dat K] (by simp [cellLt])
    cases hres : res.1 <;> simp only [hres, if_true, if_false, Bool.false_eq_true] at hloop' <;> simp (maxSteps:=9000000) only [go_sem, seval, h1, h3, hl, hb, hm, hrl, c1, c2, c3, hres] at hloop' ⊢ <;> simp only [hloop', go_sem, seval]
   ·simp (maxSteps:=9000000) only [go_sem, seval, h1, h3, hl, hb, hm, hrl, c1, c2, c3]
  ·simp (maxSteps:=9000000) only [go_sem, seval, h1, h3, hl, hb, hm, hrl, c1, c2]
 ·simp (maxSteps:=9000000) only [go_sem, seval, h1, h3, hl, hb, hm, hrl, c1]
theorem ldeep_ev : ∀ (b : Trm) {op n : Int} {K : D} {m d : Int} {l : Nat} {bx : List Box}, IsT b op n K -> -1 <= m -> m <= 1000000 -> 0 <= d -> d <= 41 -> bx[l]? = some [I m] →
  ev cfg (.call 25 [Tq op n K, .ptr l 0, I d] bx) = some (.ret (B (lgT m d b).1) (some ⟨bx.set l [I (lgT m d b).2], l, false⟩))
 | .mk op n ks, _, _, K, m, d, l, bx, h, hm, hm2, hd, hd2, hb => by
  rw [IsT] at h
  obtain ⟨rfl, rfl, _, _, rows, hK, hks, hmax⟩ := h
  have hl : l < bx.length := (gsi.1 hb).1
  apply ev_step
  show Jq _ = _
  rw [ldeep_first (res := lgT.lgs (m - 1) (d + 1) ks) hK hl hb (wrap_lo (by omega) (by omega)) (isTs_len hks) ?_]
  ·rw [lgT]; split <;> rfl
  ·intro c1 c2 c hc
   have := loop ks (bx := bx.set l [I (m - 1)]) (d := d) (l := l) (m := m - 1) (i := 0) (c := c) hK rfl hks (by rw [(isTs_len hks)]; exact hmax) (by simp at c1; omega) (by omega) hd (by simpa using c2) (by simp [hl]) (by simpa using hc)
   simp only [lls, List.set_set] at this
   exact this
where
 loop : ∀ (bs : List Trm) {rows rs : List (List D)} {K : D} {m d : Int} {l i : Nat} {bx : List Box} {c : Box}, IsS 3 rows K -> rows.drop i = rs -> IsT.IsTs bs rs -> rows.length < 9223372036854775808 -> -1 <= m -> m <= 1000000 -> 0 <= d -> d <= 40 -> bx[l]? = some [I m] -> c.all (cellLt (bx.length + 1)) = true →
  ev cfg (.loop 25 5 ⟨(sh25_5 (.ptr l 0) (I d) (.dat K) (I rows.length) (I i)), bx ++ [c], bx.length, some l, false⟩) =
   some (if (lgT.lgs m (d + 1) bs).1 = true then .loop .ret ⟨(se25_5 (B true)), bx.set l [I (lgT.lgs m (d + 1) bs).2] ++ [c], bx.length, some l, false⟩
   else .loop (.exit 0) ⟨(se25_5 .dead), bx.set l [I (lgT.lgs m (d + 1) bs).2] ++ [c], bx.length, some l, false⟩)
 | [], rows, rs, K, m, d, l, i, bx, c, hK, hr, hbs, hmax, hm, hm2, hd, hd2, hb, hc => by
  have hl : l < bx.length := (gsi.1 hb).1
  rw [IsT.IsTs] at hbs
  subst hbs
  simp only [lgT.lgs, Bool.false_eq_true, if_false]
  apply ev_step
  show Jq _ = _
  rw [ldeep_end hl hc (drop_nil hr), set_same hb]
 | b :: bs, rows, rs, K, m, d, l, i, bx, c, hK, hr, hbs, hmax, hm, hm2, hd, hd2, hb, hc => by
  have hl : l < bx.length := (gsi.1 hb).1
  rw [IsT.IsTs] at hbs
  obtain ⟨op, n, K', rest, rfl, hB, hrest⟩ := hbs
  obtain ⟨hget, hr', hlt⟩ := drop_cons hr
  have hb1 := fun (bx' : List Box) (h : bx'[l]? = some [I m]) (_ : l < bx'.length) => ldeep_ev b (d := d + 1) hB hm hm2 (by omega) (by omega) h
  have hst := ldeep_round (res := lgT m (d + 1) b) (d := d) hK hl hb hc hget hlt hmax (wrap_lo (by omega) (by omega)) (isT_one hB) hb1
  rw [lgT.lgs]
  by_cases hres : (lgT m (d + 1) b).1 = true
  ·rw [if_pos hres] at hst
   rw [if_pos hres, if_pos rfl]
   exact es hst
  ·rw [if_neg hres] at hst
   rw [if_neg hres]
   have hge := lgT_ge b m (d + 1)
   have := loop bs (bx := bx.set l [I (lgT m (d + 1) b).2]) (l := l) (m := (lgT m (d + 1) b).2) (i := i + 1) (d := d) (c := c) hK hr' hrest hmax (lgT_lo b m (d + 1) hres) (by omega) hd hd2 (by simp [hl]) (by simpa using hc)
   simp only [lls, List.set_set] at this
   exact es (hst.trans this)
section
end
theorem inL_any (X : List Int) (i : Nat) : (X.any fun y => (i : Int) == y) = inL X i := by rw [inL, List.contains_eq_any_beq]
def prs (gone : Nat -> Bool) (i m : Nat) : List (List D) := (List.range i).map (fun j => [dI ((rank gone j : Nat) : Int)]) ++ List.replicate m [dI 0]
theorem prs_get {gone : Nat -> Bool} {i m : Nat} : (prs gone i (m + 1))[i]? = some [dI 0] := by
 rw [prs, gar (by simp)]
 simp
theorem prs_set {gone : Nat -> Bool} {i m : Nat} : (prs gone i (m + 1)).set i [dI ((rank gone i : Nat) : Int)] = prs gone (i + 1) m := by
 rw [prs, prs, List.range_succ, List.map_append, List.replicate_succ, List.set_append_right _ _ (by simp)]
 simp
theorem prs_end {gone : Nat -> Bool} {i j : Nat} (h : j < i) : (prs gone i 0)[j]? = some [dI ((rank gone j : Nat) : Int)] := by
 rw [prs, List.replicate_zero, List.append_nil, List.getElem?_map, List.getElem?_range h]; rfl
section
variable {bx : List Box} {N F X Z : D} {l : Nat}
theorem fdrop_keep {rows lr pr ks acc : List (List D)} {gone : Nat -> Bool} {i : Nat} {f t w : Int} (hl : l < bx.length) (hb : bx[l]? = some [.dat N, .dat F, .own true 5 rows, .own true 3 lr]) (hZ : Oq Z) (hlt : i < lr.length) (hmax : lr.length < 1000) (hacc : acc.length <= i)
  (hget : lr[i]? = some [dI f, dI t, dI w]) (hf : f < 0 ∨ 0 <= f /\ pr[f.toNat]? = some [dI (renum gone f)]) (ht : t < 0 ∨ 0 <= t /\ pr[t.toNat]? = some [dI (renum gone t)])
  (hc : Cq 49 [.dat Z, I i] (B false)) :
  Jq (.loop 93 11 (q0 bx (sh93_11 (.ptr l 0) (.dat Z) (.own true 1 pr) (mkS 5 ks) (mkS 3 acc) (.alias (.cell l 3)) (I lr.length) (I i)))) =
   ev cfg (.loop 93 11 (q0 bx (sh93_11 (.ptr l 0) (.dat Z) (.own true 1 pr) (mkS 5 ks) (mkS 3 (acc ++ [[dI (renum gone f), dI (renum gone t), dI w]])) (.alias (.cell l 3)) (I lr.length) (I ((i + 1 : Nat) : Int))))) := by
 have hks : (acc.length + 1) * 24 <= 140737488355328 := by omega
 rcases hf with hf | ⟨hf0, hf⟩ <;> rcases ht with ht | ⟨ht0, ht⟩
 ·rw [renum_neg hf, renum_neg ht]
  cases acc with
  | nil => exact fdrop_keep0nn hl hb hZ hlt (by omega) hget (dqf (by omega)) (dqf (by omega)) hc
  | cons a acc => exact fdrop_keep1nn hl hb hZ hlt (by omega) hks hget (dqf (by omega)) (dqf (by omega)) hc
 ·rw [renum_neg hf]
  have e : t = ((t.toNat : Nat) : Int) := (Int.toNat_of_nonneg ht0).symm
  rw [e] at hget
  cases acc with
  | nil => exact fdrop_keep0np hl hb hZ hlt (by omega) hget (dqf (by omega)) ht hc
  | cons a acc => exact fdrop_keep1np hl hb hZ hlt (by omega) hks hget (dqf (by omega)) ht hc
 ·rw [renum_neg ht]
  have e : f = ((f.toNat : Nat) : Int) := (Int.toNat_of_nonneg hf0).symm
  rw [e] at hget
  cases acc with
  | nil => exact fdrop_keep0pn hl hb hZ hlt (by omega) hget hf (dqf (by omega)) hc
  | cons a acc => exact fdrop_keep1pn hl hb hZ hlt (by omega) hks hget hf (dqf (by omega)) hc
 ·have e : t = ((t.toNat : Nat) : Int) := (Int.toNat_of_nonneg ht0).symm
  have e' : f = ((f.toNat : Nat) : Int) := (Int.toNat_of_nonneg hf0).symm
  rw [e, e'] at hget
  cases acc with
  | nil => exact fdrop_keep0pp hl hb hZ hlt (by omega) hget hf ht hc
  | cons a acc => exact fdrop_keep1pp hl hb hZ hlt (by omega) hks hget hf ht hc
theorem dropW_ev {w : Wb} {gone : List Int} {cut : List Nat} (hlen : w.ks.length <= 100 /\ w.ls.length <= 100) (hr : ∀ l ∈ w.ls, (-1 <= l.1 /\ l.1 < w.ks.length) /\ -1 <= l.2.1 /\ l.2.1 < w.ks.length)
  (hl : l < bx.length) (hb : bx[l]? = some [.dat N, .dat F, .own true 5 (cB.cBs w.ks), .own true 3 (w.ls.map lnkD)]) (hX : IsS 1 (iR gone) X) (hZ : IsS 1 (nR cut) Z) (hgl : gone.length < 1000 /\ cut.length < 1000) :
  ev cfg (.call 93 [.ptr l 0, .dat X, .dat Z] bx) = some (.ret (.tup []) (some ⟨bx.set l (fbox N F (dropW w gone cut)), l, false⟩)) := by
 have oX : Oq X := by obtain ⟨_, _, _, h⟩ := hX; exact h
 have oZ : Oq Z := by obtain ⟨_, _, _, h⟩ := hZ; exact h
 have hkl : (cB.cBs w.ks).length = w.ks.length := cBs_len _
 have hll : (w.ls.map lnkD).length = w.ls.length := List.length_map ..
 have cX : ∀ (i : Nat) (bx : List Box), ev cfg (.call 49 [.dat X, I i] bx) = Rq (B (inL gone i)) := fun i bx => by
  rw [fHas_ev gone X hX (by omega) i bx, inL_any]
 have cZ : ∀ (i : Nat) (bx : List Box), ev cfg (.call 49 [.dat Z, I i] bx) = Rq (B (cut.contains i)) := fun i bx => by
  rw [fHas_ev _ Z hZ (by simp; omega) i bx, inL_any, inL]
  refine congrArg (fun b : Bool => Rq (B b)) (Bool.eq_iff_iff.2 ?_)
  simp only [List.contains_iff_mem, List.mem_map]
  exact ⟨fun ⟨a, h, e⟩ => by rw [<- Int.ofNat_inj.1 e]; exact h, fun h => ⟨i, h, rfl⟩⟩
 have loop1 : ∀ (bs : List Blk) (i m : Nat) (acc : List Blk), w.ks.drop i = bs -> m = bs.length -> acc.length = rank (inL gone) i -> acc.length <= i →
   ev cfg (.loop 93 3 (q0 bx (sh93_3 (.ptr l 0) (.dat X) (.dat Z) (.own true 1 (prs (inL gone) i m)) (mkS 5 (cB.cBs acc)) (.alias (.cell l 2)) (I (cB.cBs w.ks).length) (I i)))) =
    some (.loop (.exit 0) (q0 bx (se93_3 (.ptr l 0) (.dat Z) (.own true 1 (prs (inL gone) (i + m) 0)) (mkS 5 (cB.cBs (acc ++ dropK (inL gone) i bs)))))) := by
  intro bs
  induction bs with
  | nil =>
   intro i m acc hd hm ha _
   have hm0 : m = 0 := hm
   subst hm0
   rw [dropK, List.append_nil]
   exact es (fdrop_kend hl hb oX oZ (by rw [hkl]; exact drop_nil hd))
  | cons b bs ih =>
   intro i m acc hd hm ha hai
   obtain ⟨hget, hd', hlt⟩ := drop_cons hd
   have hm1 : m = bs.length + 1 := hm
   subst hm1
   have hrow := cBs_get hget
   have hrr : [dI ((acc.length : Nat) : Int)] = [dI ((rank (inL gone) i : Nat) : Int)] := by rw [ha]
   have ed : dropK (inL gone) i (b :: bs) = if inL gone i = true then dropK (inL gone) (i + 1) bs else b :: dropK (inL gone) (i + 1) bs := rfl
   rw [show i + (bs.length + 1) = i + 1 + bs.length by omega]
   have hcb : cB b = cB b := rfl
   obtain ⟨k, n, a, ks', ls'⟩ := b
   cases acc with
   | nil =>
    have hr := fdrop_k0 (pr := prs (inL gone) i (bs.length + 1)) hl hb oX oZ hrow (mkD_one 5 _) (mkD_one 3 _) prs_get (by rw [hkl]; omega) (cX i)
    have h0 : rank (inL gone) i = 0 := ha.symm
    rw [show [dI ((0 : Nat) : Int)] = [dI ((rank (inL gone) i : Nat) : Int)] by rw [h0], prs_set] at hr
    refine es (hr.trans ?_)
    rw [ed]
    cases hg : inL gone i with
    | true =>
     rw [if_pos rfl, if_pos rfl]
     exact ih (i + 1) bs.length [] hd' rfl (by rw [rank_gone hg]; exact h0.symm) (by simp)
    | false =>
     rw [if_neg fnt, if_neg fnt]
     exact ih (i + 1) bs.length [.mk k n a ks' ls'] hd' rfl (by rw [rank_succ hg, h0]; rfl) (by simp)
   | cons c acc =>
    have hr := fdrop_k1 (pr := prs (inL gone) i (bs.length + 1)) (ls := cB.cBs (c :: acc)) hl hb oX oZ hrow (mkD_one 5 _) (mkD_one 3 _) prs_get (by rw [hkl]; omega) (by rw [cBs_len]; omega) (cX i)
    rw [cBs_len (c :: acc), hrr, prs_set] at hr
    refine es (hr.trans ?_)
    rw [ed]
    cases hg : inL gone i with
    | true =>
     rw [if_pos rfl, if_pos rfl]
     exact ih (i + 1) bs.length (c :: acc) hd' rfl (by rw [rank_gone hg]; exact ha) (by omega)
    | false =>
     rw [if_neg fnt, if_neg fnt]
     have := ih (i + 1) bs.length (c :: acc ++ [.mk k n a ks' ls']) hd' rfl (by rw [rank_succ hg, <- ha]; simp) (by simp at hai ⊢; omega)
     rw [List.append_assoc] at this
     rw [cBs_app] at this
     exact this
 have loop2 : ∀ (xs : List Lk) (i : Nat) (acc : List Lk), w.ls.drop i = xs -> acc.length <= i →
   ev cfg (.loop 93 11 (q0 bx (sh93_11 (.ptr l 0) (.dat Z) (.own true 1 (prs (inL gone) w.ks.length 0)) (mkS 5 (cB.cBs (dropK (inL gone) 0 w.ks))) (mkS 3 (acc.map lnkD)) (.alias (.cell l 3)) (I (w.ls.map lnkD).length) (I i)))) =
    some (.loop (.exit 2) (q0 bx (se93_11 (.ptr l 0) (mkS 5 (cB.cBs (dropK (inL gone) 0 w.ks))) (mkS 3 ((acc ++ dropL (inL gone) cut.contains i xs).map lnkD))))) := by
  intro xs
  induction xs with
  | nil =>
   intro i acc hd _
   rw [dropL, List.append_nil]
   exact es (fdrop_lend hl hb oZ (by rw [hll]; exact drop_nil hd))
  | cons x xs ih =>
   intro i acc hd ha
   obtain ⟨hget, hd', hlt⟩ := drop_cons hd
   have hlk := lnk_get hget
   have hcz := cZ i
   have hxr := hr x (mog hget)
   have hend : ∀ y : Int, -1 <= y /\ y < w.ks.length -> y < 0 ∨ 0 <= y /\ (prs (inL gone) w.ks.length 0)[y.toNat]? = some [dI (renum (inL gone) y)] := fun y hy => by
    by_cases h0 : y < 0
    ·exact .inl h0
    ·refine .inr ⟨by omega, ?_⟩
     rw [prs_end (by omega), renum, if_neg h0]
   rw [dropL]
   cases hc : cut.contains i with
   | true =>
    rw [hc] at hcz
    rw [if_pos rfl]
    have h2 := ih (i + 1) acc hd' (by omega)
    cases acc with
    | nil => exact es ((fdrop_gone0 hl hb oZ (by rw [hll]; exact hlt) (by rw [hll]; omega) hlk hcz).trans h2)
    | cons c acc => exact es ((fdrop_gone1 (ls := (c :: acc).map lnkD) hl hb oZ (by rw [hll]; exact hlt) (by rw [hll]; omega) (by rw [List.length_map]; omega) hlk hcz).trans h2)
   | false =>
    rw [hc] at hcz
    rw [if_neg fnt]
    have h2 := ih (i + 1) (acc ++ [(renum (inL gone) x.1, renum (inL gone) x.2.1, x.2.2)]) hd' (by simp; omega)
    rw [List.append_assoc, List.map_append] at h2
    exact es ((fdrop_keep (acc := acc.map lnkD) hl hb oZ (by rw [hll]; exact hlt) (by rw [hll]; omega) (by rw [List.length_map]; exact ha) hlk (hend _ hxr.1) (hend _ hxr.2) hcz).trans h2)
 have h1 := loop1 w.ks 0 w.ks.length [] rfl rfl rfl (Nat.le_refl _)
 have h2 := loop2 w.ls 0 [] rfl (Nat.le_refl _)
 rw [Nat.zero_add, List.nil_append] at h1
 rw [List.nil_append] at h2
 refine es (fdrop_f (pr := prs (inL gone) w.ks.length 0) hl hb oX oZ (by rw [hkl]; omega) ?_ h2)
 rw [hkl] at h1 ⊢
 have e : prs (inL gone) 0 w.ks.length = List.replicate w.ks.length [dI 0] := by rw [prs]; rfl
 rw [e] at h1
 exact h1
end
theorem mkD_is (k : Nat) (xs : List (List D)) : IsS k xs (mkD k xs) := by
 cases xs with
 | nil => exact isS_nil k
 | cons => exact isS_sl k _
theorem mkS_snoc (k : Nat) (xs : List (List D)) (r : List D) : mkS k (xs ++ [r]) = .own true k (xs ++ [r]) := by cases xs <;> rfl
section
variable {bx : List Box} {nr fr : List (List D)} {N F K : D} {i : Nat} {k a op n m f t : Int} {e : Bool} {res : Bool × Int}
theorem large_r1 (hN : IsS 5 nr N) (hF : Oq F) (hget : nr[i]? = some [dI k, dI a, dI op, dI n, K]) (hlt : i < nr.length) (hmax : nr.length < 9223372036854775808) (hK : Oq K)
  (hcall : ∀ c : Box, ev cfg (.call 25 [Tq op n K, P1 bx, I 1] (bx ++ [Nb N F, [I m], c])) = some (.ret (B res.1) (some ⟨bx ++ [Nb N F, [I res.2], c], bx.length + 1, false⟩))) :
  Jq (.loop 7 5 (qs bx (sh7_5 (P0 bx) (P1 bx) (.dat N) (I nr.length) (I i)) [Nb N F, [I m]])) =
   if res.1 = true then some (.loop .ret (qs bx (se7_5 (P0 bx) (B true) (P1 bx)) [Nb N F, [I res.2]]))
   else ev cfg (.loop 7 5 (qs bx (sh7_5 (P0 bx) (P1 bx) (.dat N) (I nr.length) (I ((i + 1 : Nat) : Int))) [Nb N F, [I res.2]])) := by
 obtain ⟨w, h1, h2, h3⟩ := hN
 obtain rfl := isS_w h2 hget
 cases hres : res.1 <;> simp (maxSteps:=9000000) only [go_sem, seval, h1, h3, hF, hK, nat_lt hlt, nat_neg, tnc, hget, hcall, hres, nat_succ hlt hmax]
theorem large_e1 (hN : Oq N) (hF : Oq F) {len : Nat} (hge : len <= i) :
  Jq (.loop 7 5 (qs bx (sh7_5 (P0 bx) (P1 bx) (.dat N) (I len) (I i)) [Nb N F, [I m]])) =
   some (.loop (.exit 0) (qs bx (se7_5 (P0 bx) .dead (P1 bx)) [Nb N F, [I m]])) := by
 simp (maxSteps:=9000000) only [go_sem, seval, hN, hF, nat_ge hge]
theorem large_r2 (hN : Oq N) (hF : IsS 6 fr F) (hget : fr[i]? = some [dI f, dI t, .lit (.bool e), dI op, dI n, K]) (hlt : i < fr.length) (hmax : fr.length < 9223372036854775808) (hK : Oq K)
  (hcall : ∀ c : Box, ev cfg (.call 25 [Tq op n K, P1 bx, I 1] (bx ++ [Nb N F, [I m], c])) = some (.ret (B res.1) (some ⟨bx ++ [Nb N F, [I res.2], c], bx.length + 1, false⟩))) :
  Jq (.loop 7 11 (qs bx (sh7_11 (P1 bx) (.dat F) (I fr.length) (I i)) [Nb N F, [I m]])) =
   if res.1 = true then some (.loop .ret (qs bx (se7_11 (B true)) [Nb N F, [I res.2]]))
   else ev cfg (.loop 7 11 (qs bx (sh7_11 (P1 bx) (.dat F) (I fr.length) (I ((i + 1 : Nat) : Int))) [Nb N F, [I res.2]])) := by
 obtain ⟨w, h1, h2, h3⟩ := hF
 obtain rfl := isS_w h2 hget
 cases hres : res.1 <;> simp (maxSteps:=9000000) only [go_sem, seval, h1, h3, hN, hK, nat_lt hlt, nat_neg, tnc, hget, hcall, hres, nat_succ hlt hmax]
theorem large_e2 (hN : Oq N) (hF : Oq F) {len : Nat} (hge : len <= i) :
  Jq (.loop 7 11 (qs bx (sh7_11 (P1 bx) (.dat F) (I len) (I i)) [Nb N F, [I m]])) =
   some (.loop (.exit 2) (qs bx (se7_11 .dead) [Nb N F, [I m]])) := by
 simp (maxSteps:=9000000) only [go_sem, seval, hN, hF, nat_ge hge]
end
end Go.Proofs.YtifckjhggamefaaGreatDoor
