/- Rounds of the law's 'deep' and 'large'. No condition. -/
import Derived.Test.YtifckjhggamefaaDoorAt
import Derived.Test.YtifckjhggamefaaDoorGf
import Derived.Test.YtifckjhggamefaaDoorGh
import Derived.Test.YtifckjhggamefaaDoorVxOk
import Derived.Test.YtifckjhggamefaaDoorCards
import Derived.Test.YtifckjhggamefaaDoorTie
import Derived.ProofKit
import Derived.LaidMore
import Derived.OpenShut
import Derived.Stop.Joined
import Derived.SevenTiedAt
import Derived.Test.YtifckjhggamefaaDoorGa
set_option linter.unusedSimpArgs false
set_option linter.unusedVariables false
set_option linter.unusedSectionVars false
namespace Go.Proofs.YtifckjhggamefaaDoor
open Go Go.Vx
set_option maxHeartbeats 4000000
set_option maxRecDepth 10000
theorem ldeep_round {bx : List Box} {l : Nat} {m d : Int} {c : Box} {rows : List (List D)} {K K' : D} {i : Nat} {op n : Int} {res : Bool × Int} (hK : IsS 3 rows K) (hl : l < bx.length) (hb : bx[l]? = some [I m]) (hc : c.all (cellLt (bx.length + 1)) = true)
  (hget : rows[i]? = some [dI op, dI n, K']) (hlt : i < rows.length) (hmax : rows.length < 9223372036854775808) (hd : IntKind.wrap .i64 (d + 1) = d + 1) (hk : K'.oneC = true)
  (hcall : ∀ bx : List Box, bx[l]? = some [I m] -> l < bx.length -> ev cfg (.call 16 [.agg [I op, I n, .dat K'], .ptr l 0, I (d + 1)] bx) = some (.ret (B res.1) (some ⟨bx.set l [I res.2], l, false⟩))) :
  stepJ (ev cfg) cfg (.loop 16 5 ⟨(sh16_5 (.ptr l 0) (I d) (.dat K) (I rows.length) (I i)), bx ++ [c], bx.length, some l, false⟩) =
   if res.1 = true then some (.loop .ret ⟨(se16_5 (B true)), bx.set l [I res.2] ++ [c], bx.length, some l, false⟩)
   else ev cfg (.loop 16 5 ⟨(sh16_5 (.ptr l 0) (I d) (.dat K) (I rows.length) (I ((i + 1 : Nat) : Int))), bx.set l [I res.2] ++ [c], bx.length, some l, false⟩) := by
 obtain ⟨w, h1, h2, h3⟩ := hK
 obtain rfl := isS_w h2 hget
 have hcall' : ∀ r : Box, ev cfg (.call 16 [.agg [I op, I n, .dat K'], .ptr l 0, I (d + 1)] (bx ++ [c, r])) = some (.ret (B res.1) (some ⟨bx.set l [I res.2] ++ [c, r], l, false⟩)) := by
  intro r
  rw [hcall _ (by rw [get_old hl]; exact hb) (by simp; omega), set_old hl]
 cases hres : res.1 <;> simp (maxSteps := 2000000) only [go_sem, seval, h1, h3, hk, nat_lt hlt, nat_neg, tnc, hget, hd, hcall', hres, hl, hc, nat_succ hlt hmax, Nat.min_self]
theorem ldeep_end {bx : List Box} {l : Nat} {d : Int} {c : Box} {n i : Nat} {K : D} (hl : l < bx.length) (hc : c.all (cellLt (bx.length + 1)) = true) (hge : n <= i) :
  stepJ (ev cfg) cfg (.loop 16 5 ⟨(sh16_5 (.ptr l 0) (I d) (.dat K) (I n) (I i)), bx ++ [c], bx.length, some l, false⟩) = some (.loop (.exit 0) ⟨(se16_5 .dead), bx ++ [c], bx.length, some l, false⟩) := by
 simp (maxSteps := 2000000) only [go_sem, seval, nat_ge hge, hl, hc]
theorem ldeep_first {bx : List Box} {l : Nat} {m d : Int} {ks : List Trm} {op n : Int} {rows : List (List D)} {K : D} {res : Bool × Int} (hK : IsS 3 rows K) (hl : l < bx.length) (hb : bx[l]? = some [I m]) (hm : IntKind.wrap .i64 (m - 1) = m - 1) (hrl : rows.length = ks.length)
  (hloop : decide (m - 1 < 0) = false -> decide (d > 40) = false -> ∀ c : Box, c.all (cellLt (bx.length + 1)) = true -> ev cfg (.loop 16 5 ⟨(sh16_5 (.ptr l 0) (I d) (.dat K) (I rows.length) (I 0)), bx.set l [I (m - 1)] ++ [c], bx.length, some l, false⟩) =
   some (if res.1 = true then .loop .ret ⟨(se16_5 (B true)), bx.set l [I res.2] ++ [c], bx.length, some l, false⟩ else .loop (.exit 0) ⟨(se16_5 .dead), bx.set l [I res.2] ++ [c], bx.length, some l, false⟩)) :
  stepJ (ev cfg) cfg (.call 16 [.agg [I op, I n, .dat K], .ptr l 0, I d] bx) =
   if (decide (m - 1 < 0) || decide (d > 40) || decide ((ks.length : Int) > 50)) = true then some (.ret (B true) (some ⟨bx.set l [I (m - 1)], l, false⟩)) else some (.ret (B res.1) (some ⟨bx.set l [I res.2], l, false⟩)) := by
 obtain ⟨w, h1, h2, h3⟩ := hK
 cases c1 : decide (m - 1 < 0)
 ·cases c2 : decide (d > 40)
  ·cases c3 : decide ((ks.length : Int) > 50)
   ·have hloop' := hloop c1 c2 [I op, I n, .dat K] (by simp [cellLt])
    cases hres : res.1 <;> simp only [hres, if_true, if_false, Bool.false_eq_true] at hloop' <;> simp (maxSteps := 2000000) only [go_sem, seval, h1, h3, hl, hb, hm, hrl, c1, c2, c3, hres] at hloop' ⊢ <;> simp only [hloop', go_sem, seval]
   ·simp (maxSteps := 2000000) only [go_sem, seval, h1, h3, hl, hb, hm, hrl, c1, c2, c3]
  ·simp (maxSteps := 2000000) only [go_sem, seval, h1, h3, hl, hb, hm, hrl, c1, c2]
 ·simp (maxSteps := 2000000) only [go_sem, seval, h1, h3, hl, hb, hm, hrl, c1]
theorem ldeep_ev : ∀ (b : Trm) {op n : Int} {K : D} {m d : Int} {l : Nat} {bx : List Box}, IsT b op n K -> -1 <= m -> m <= 1000000 -> 0 <= d -> d <= 41 -> bx[l]? = some [I m] →
  ev cfg (.call 16 [.agg [I op, I n, .dat K], .ptr l 0, I d] bx) = some (.ret (B (lgT m d b).1) (some ⟨bx.set l [I (lgT m d b).2], l, false⟩))
 | .mk op n ks, _, _, K, m, d, l, bx, h, hm, hm2, hd, hd2, hb => by
  rw [IsT] at h
  obtain ⟨rfl, rfl, _, _, rows, hK, hks, hmax⟩ := h
  have hl : l < bx.length := (gsi.1 hb).1
  apply ev_step
  show stepJ (ev cfg) cfg _ = _
  rw [ldeep_first (res := lgT.lgs (m - 1) (d + 1) ks) hK hl hb (wrap_lo (by omega) (by omega)) (isTs_len hks) ?_]
  ·rw [lgT]; split <;> rfl
  ·intro c1 c2 c hc
   have := loop ks (bx := bx.set l [I (m - 1)]) (d := d) (l := l) (m := m - 1) (i := 0) (c := c) hK rfl hks (by rw [(isTs_len hks)]; exact hmax) (by simp at c1; omega) (by omega) hd (by simpa using c2) (by simp [hl]) (by simpa using hc)
   simp only [lls, List.set_set] at this
   exact this
where
 loop : ∀ (bs : List Trm) {rows rs : List (List D)} {K : D} {m d : Int} {l i : Nat} {bx : List Box} {c : Box}, IsS 3 rows K -> rows.drop i = rs -> IsT.IsTs bs rs -> rows.length < 9223372036854775808 -> -1 <= m -> m <= 1000000 -> 0 <= d -> d <= 40 -> bx[l]? = some [I m] -> c.all (cellLt (bx.length + 1)) = true →
  ev cfg (.loop 16 5 ⟨(sh16_5 (.ptr l 0) (I d) (.dat K) (I rows.length) (I i)), bx ++ [c], bx.length, some l, false⟩) =
   some (if (lgT.lgs m (d + 1) bs).1 = true then .loop .ret ⟨(se16_5 (B true)), bx.set l [I (lgT.lgs m (d + 1) bs).2] ++ [c], bx.length, some l, false⟩
   else .loop (.exit 0) ⟨(se16_5 .dead), bx.set l [I (lgT.lgs m (d + 1) bs).2] ++ [c], bx.length, some l, false⟩)
 | [], rows, rs, K, m, d, l, i, bx, c, hK, hr, hbs, hmax, hm, hm2, hd, hd2, hb, hc => by
  have hl : l < bx.length := (gsi.1 hb).1
  rw [IsT.IsTs] at hbs
  subst hbs
  simp only [lgT.lgs, Bool.false_eq_true, if_false]
  apply ev_step
  show stepJ (ev cfg) cfg _ = _
  rw [ldeep_end hl hc (drop_nil hr), set_same hb]
 | b :: bs, rows, rs, K, m, d, l, i, bx, c, hK, hr, hbs, hmax, hm, hm2, hd, hd2, hb, hc => by
  have hl : l < bx.length := (gsi.1 hb).1
  rw [IsT.IsTs] at hbs
  obtain ⟨op, n, K', rest, rfl, hB, hrest⟩ := hbs
  obtain ⟨hget, hr', hlt⟩ := drop_cons hr
  have hb1 := fun (bx' : List Box) (h : bx'[l]? = some [I m]) (_ : l < bx'.length) => ldeep_ev b (d := d + 1) hB hm hm2 (by omega) (by omega) h
  have hst := ldeep_round (res := lgT m (d + 1) b) (d := d) hK hl hb hc hget hlt hmax (wrap_lo (by omega) (by omega)) (isT_one hB) hb1
  rw [lgT.lgs]
  by_cases hres : (lgT m (d + 1) b).1 = true
  ·rw [if_pos hres] at hst
   rw [if_pos hres, if_pos rfl]
   exact es hst
  ·rw [if_neg hres] at hst
   rw [if_neg hres]
   have hge := lgT_ge b m (d + 1)
   have := loop bs (bx := bx.set l [I (lgT m (d + 1) b).2]) (l := l) (m := (lgT m (d + 1) b).2) (i := i + 1) (d := d) (c := c) hK hr' hrest hmax (lgT_lo b m (d + 1) hres) (by omega) hd hd2 (by simp [hl]) (by simpa using hc)
   simp only [lls, List.set_set] at this
   exact es (hst.trans this)
set_option maxHeartbeats 8000000
section
end
open Go.ChangeShapes Go.WideShapes Go.ChangeAt Go.WideElems Go.RowKit
set_option maxRecDepth 100000
theorem own : ownKnob Tryd.prog.godebug = none := by kernel_rfl
theorem laidOut : laidOutB Tryd.prog = true := by kernel_rfl
theorem door_met (os : Os) (args : Array Value) : laidMetH Tryd.prog laidNames ((World.doorLaid Tryd.prog 400 os).forCall (fun _ _ => 0) ⟨#[], args, []⟩).memory :=
 laidMetH_of_parts3 (fuel := 8) (laidMet_of_run' 8 (by kernel_rfl) (by kernel_rfl)) (by kernel_rfl) (by kernel_rfl)
section
variable {H : Type} {enc : TypeId × Value -> H} {P : Program}
theorem post_below {f : Func} {s : ChangeSpec} {apart fresh handsOn again : Bool} {W W' : World} {args : Array Value} {v : Value} {ds gs : List (DataW H)} {before pa pv : List MemPlace}
  (hW : DataW.Whole enc P f.params.toList s.vars apart W args.toList ds gs before)
  (hres : ∀ (b : Nat) (sp : Nat -> Bool) (hd : Bool), DataW.TrodAll enc P W' b sp hd f.resultTypes.toList (v.resultList f.resultTypes.size) (s.fn H (ds ++ gs)).results [])
  (hargs : ∀ sp : Nat -> Bool, (∀ p ∈ before, sp p.block = true) -> DataW.TrodAll enc P W' 0 sp true f.params.toList args.toList (s.fn H (ds ++ gs)).args pa)
  (hvars : ∀ sp : Nat -> Bool, (∀ p ∈ before, sp p.block = true) -> DataW.TrodVars enc P W' sp s.vars (s.fn H (ds ++ gs)).vars pv)
  (hps : before = pa ++ pv) (hb : Below W.heap.size W W')
  (hok : ∀ (j : Nat) (t : TypeId) (r : Value), f.resultTypes[j]? = some t -> (v.resultList f.resultTypes.size)[j]? = some r -> Value.okWide P W' .any 0 t r) :
  s.post enc P f apart fresh handsOn again W args v W' := by
 have hlt : ∀ p ∈ before, p.block < W.heap.size := fun p hp => hW.lt p hp
 have hold : ∀ p ∈ before, (fun b => decide (b < W.heap.size)) p.block = true := fun p hp => by simpa using hlt p hp
 refine ⟨ds, gs, before, [], pa, pv, hW, hres _ _ _, hargs _ hold, hvars _ hold, World.keptBut_mono (fun p hp => ⟨hp, ?_⟩) (hb.frame (· ∈ before)), fun _ => ?_⟩
 ·rw [hps, List.mem_append] at hp
  exact Or.inr hp
 ·obtain ⟨_, _, _, _, _, hz, hn⟩ := hW
  refine ⟨hok, _, _, ([] ++ pa) ++ pv, ⟨[] ++ pa, pv, trodAll_append (hargs _ (fun _ _ => rfl)) (hres _ _ _), hvars _ (fun _ _ => rfl), rfl, ?_, ?_⟩, ?_⟩
  ·intro b off hp
   have hin : MemPlace.cell b off ∈ before := by rw [hps]; simpa using hp
   rw [hb.frozen (hlt _ hin)]
   exact hz b off hin
  ·intro ha
   have := hn ha
   rw [hps] at this
   simpa using this
  ·intro p hp _
   rw [hps]
   simpa using hp
end
def okB : Blk -> Prop
 | .mk _ _ _ ks ls => ks.length <= 200 /\ ls.length <= 100 /\ go ks
where
 go : List Blk -> Prop
 | [] => True
 | b :: bs => okB b /\ go bs
theorem bigB_ok : ∀ (b : Blk) (m d : Int), ¬ (bigB m d b).1 = true -> okB b
 | .mk k n a ks ls, m, d, h => by
  rw [bigB] at h
  split at h
  ·exact absurd rfl h
  ·rename_i hc
   simp only [Bool.or_eq_true, dqE, not_or] at hc
   rw [okB]
   exact ⟨by omega, by omega, go ks _ _ h⟩
where
 go : ∀ (bs : List Blk) (m d : Int), ¬ (bigB.bigs m d bs).1 = true -> okB.go bs
 | [], m, d, _ => by rw [okB.go]; trivial
 | b :: bs, m, d, h => by
  rw [bigB.bigs] at h
  split at h
  ·exact absurd rfl h
  ·rename_i hc
   rw [okB.go]
   exact ⟨bigB_ok b m d hc, go bs _ d h⟩
section
variable {bx : List Box} {nr fr : List (List D)} {N F K : D} {i : Nat} {k a op n m f t : Int} {e : Bool} {res : Bool × Int}
theorem large_r1 (hN : IsS 5 nr N) (hF : F.oneC = true) (hget : nr[i]? = some [dI k, dI a, dI op, dI n, K]) (hlt : i < nr.length) (hmax : nr.length < 9223372036854775808) (hK : K.oneC = true)
  (hcall : ∀ c : Box, ev cfg (.call 16 [.agg [I op, I n, .dat K], .ptr (bx.length + 1) 0, I 1] (bx ++ [[.dat N, .dat F], [I m], c])) = some (.ret (B res.1) (some ⟨bx ++ [[.dat N, .dat F], [I res.2], c], bx.length + 1, false⟩))) :
  stepJ (ev cfg) cfg (.loop 5 5 (qs bx (sh5_5 (.ptr bx.length 0) (.ptr (bx.length + 1) 0) (.dat N) (I nr.length) (I i)) [[.dat N, .dat F], [I m]])) =
   if res.1 = true then some (.loop .ret (qs bx (se5_5 (.ptr bx.length 0) (B true) (.ptr (bx.length + 1) 0)) [[.dat N, .dat F], [I res.2]]))
   else ev cfg (.loop 5 5 (qs bx (sh5_5 (.ptr bx.length 0) (.ptr (bx.length + 1) 0) (.dat N) (I nr.length) (I ((i + 1 : Nat) : Int))) [[.dat N, .dat F], [I res.2]])) := by
 obtain ⟨w, h1, h2, h3⟩ := hN
 obtain rfl := isS_w h2 hget
 cases hres : res.1 <;> simp (maxSteps := 2000000) only [go_sem, seval, h1, h3, hF, hK, nat_lt hlt, nat_neg, tnc, hget, hcall, hres, nat_succ hlt hmax]
theorem large_e1 (hN : N.oneC = true) (hF : F.oneC = true) {len : Nat} (hge : len <= i) :
  stepJ (ev cfg) cfg (.loop 5 5 (qs bx (sh5_5 (.ptr bx.length 0) (.ptr (bx.length + 1) 0) (.dat N) (I len) (I i)) [[.dat N, .dat F], [I m]])) =
   some (.loop (.exit 0) (qs bx (se5_5 (.ptr bx.length 0) .dead (.ptr (bx.length + 1) 0)) [[.dat N, .dat F], [I m]])) := by
 simp (maxSteps := 2000000) only [go_sem, seval, hN, hF, nat_ge hge]
theorem large_r2 (hN : N.oneC = true) (hF : IsS 6 fr F) (hget : fr[i]? = some [dI f, dI t, .lit (.bool e), dI op, dI n, K]) (hlt : i < fr.length) (hmax : fr.length < 9223372036854775808) (hK : K.oneC = true)
  (hcall : ∀ c : Box, ev cfg (.call 16 [.agg [I op, I n, .dat K], .ptr (bx.length + 1) 0, I 1] (bx ++ [[.dat N, .dat F], [I m], c])) = some (.ret (B res.1) (some ⟨bx ++ [[.dat N, .dat F], [I res.2], c], bx.length + 1, false⟩))) :
  stepJ (ev cfg) cfg (.loop 5 11 (qs bx (sh5_11 (.ptr (bx.length + 1) 0) (.dat F) (I fr.length) (I i)) [[.dat N, .dat F], [I m]])) =
   if res.1 = true then some (.loop .ret (qs bx (se5_11 (B true)) [[.dat N, .dat F], [I res.2]]))
   else ev cfg (.loop 5 11 (qs bx (sh5_11 (.ptr (bx.length + 1) 0) (.dat F) (I fr.length) (I ((i + 1 : Nat) : Int))) [[.dat N, .dat F], [I res.2]])) := by
 obtain ⟨w, h1, h2, h3⟩ := hF
 obtain rfl := isS_w h2 hget
 cases hres : res.1 <;> simp (maxSteps := 2000000) only [go_sem, seval, h1, h3, hN, hK, nat_lt hlt, nat_neg, tnc, hget, hcall, hres, nat_succ hlt hmax]
theorem large_e2 (hN : N.oneC = true) (hF : F.oneC = true) {len : Nat} (hge : len <= i) :
  stepJ (ev cfg) cfg (.loop 5 11 (qs bx (sh5_11 (.ptr (bx.length + 1) 0) (.dat F) (I len) (I i)) [[.dat N, .dat F], [I m]])) =
   some (.loop (.exit 2) (qs bx (se5_11 .dead) [[.dat N, .dat F], [I m]])) := by
 simp (maxSteps := 2000000) only [go_sem, seval, hN, hF, nat_ge hge]
end
section
end
section
end
section
end
end Go.Proofs.YtifckjhggamefaaDoor
