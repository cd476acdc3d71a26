/- What block.nested and block.Check answer. No condition. -/
import Derived.Test.YtifckjhggamefaaDoorGl
import Derived.Test.YtifckjhggamefaaDoorGc
import Derived.Test.YtifckjhggamefaaDoorGm
import Derived.Test.YtifckjhggamefaaDoorGe
set_option linter.unusedSimpArgs false
set_option linter.unusedVariables false
set_option linter.unusedSectionVars false
namespace Go.Proofs.YtifckjhggamefaaDoor
open Go Go.Vx
set_option maxRecDepth 10000
set_option maxHeartbeats 1000000
def nestB (n : Nt) : Blk -> Bool
 | .mk k nd a ks ls => rightB n k nd a ks ls && !go k ks
where
 /-- is some kid wrong? -/
 go (pk : Int) : List Blk -> Bool
 | [] => false
 | b :: bs => (kB b == 9 || (kB b == 10 || ((kB b == 8 && pk != 9) || !nestB n b))) || go pk bs
theorem nest_any (n : Nt) (pk : Int) : ∀ bs : List Blk, nestB.go n pk bs = bs.any fun b => kB b == 9 || (kB b == 10 || ((kB b == 8 && pk != 9) || !nestB n b))
 | [] => by rw [nestB.go]; rfl
 | b :: bs => by rw [nestB.go, List.any_cons, nest_any n pk bs]
def okL : Blk -> Prop
 | .mk _ _ _ ks ls => ls.length < 1000000000 /\ go ks
where
 go : List Blk -> Prop
 | [] => True
 | b :: bs => okL b /\ go bs
theorem okL_mem : ∀ {bs : List Blk}, okL.go bs -> ∀ b ∈ bs, okL b
 | [], _, b, h => by cases h
 | c :: bs, h, b, hb => by
  rw [okL.go] at h
  rcases List.mem_cons.1 hb with rfl | hb
  ·exact h.1
  ·exact okL_mem h.2 b hb
theorem cap_new {bx : List Box} {c d : Box} : ([bx.length + 1, bx.length].all fun l => decide (l < (bx ++ [c, d]).length)) = true := by simp
theorem nest_ev {n : Nt} {N F : D} (h : IsN n N F) (hsz : n.flows.length <= 1000) : ∀ (b : Blk) {k nd a : Int} {K L : D}, IsB b k nd a K L -> okL b -> ∀ bx : List Box,
  ev cfg (.call 19 [.agg [.dat N, .dat F], .agg [I k, I nd, I a, .dat K, .dat L]] bx) = some (.ret (B (nestB n b)) none)
 | .mk _ _ _ ks ls, k, nd, a, K, L, hB, hok, bx => by
  have hB0 := hB
  obtain ⟨oN, oF⟩ := isN_one h
  obtain ⟨oK, oL⟩ := isB_one hB
  rw [IsB] at hB
  obtain ⟨rfl, rfl, rfl, _, _, _, rows, hK, hks, hmax, hL, _, _⟩ := hB
  rw [okL] at hok
  have hr := fun bx : List Box => right_ev3 h hsz hB0 hok.1 bx
  rw [nestB]
  cases hrb : rightB n k nd a ks ls with
  | false =>
   rw [hrb] at hr
   rw [Bool.false_and]
   exact es (nest_no oK oL oN oF hr)
  | true =>
   rw [hrb] at hr
   rw [Bool.true_and, nest_any]
   refine es (nest_f oK oL oN oF hr ?_)
   refine kids_ev _ hK hks hmax cap_new fun b hb k' n' a' K' L' hB' => ?_
   have e : k' = kB b := by cases b; rw [IsB] at hB'; exact hB'.1
   subst e
   exact es (nest1_f (isB_one hB').1 (isB_one hB').2 oN oF (by simp) (by simp) (by rw [app_get]; rfl) (by rw [app_get0]; rfl) fun bx => nest_ev h hsz b hB' (okL_mem hok.2 b hb) bx)
termination_by b => SizeOf.sizeOf b
decreasing_by
 have := List.sizeOf_lt_of_mem hb
 simp
 omega
def dupB (l : List Int) : Bool := decide ((Lib.compact (sortI l)).length < (sortI l).length)
def chkB (ok : Bool) (n : Nt) (b : Blk) : Int :=
 if ok = false then 1 else if longB b = true then 2 else if nestB n b = false then 4 else if dupB (nodesB n b) = true then 8 else 0
theorem clone_ev (xs : List Int) (hl : xs.length < 1000000000) (bx : List Box) : ev cfg (.call 22 [.dat (mkD 1 (intR xs))] bx) = some (.ret (mkS 1 (intR xs)) none) := by
 cases xs with
 | nil => exact es clone_nil
 | cons x xs => exact es (clone_rows (r := [dI x]) (rs := intR xs) (by rw [intR_len]; simp at hl; omega))
theorem bcheck_ev {n : Nt} {N F : D} (h : IsN n N F) (hfl : n.flows.length <= 1000) (hnd : n.nodes.length <= 1000) (hz : ∀ t ∈ termsN n, sizeT t <= 1000000) (ok : Bool) (hk : ok = true ↔ OkN n)
  (b : Blk) {k nd a : Int} {K L : D} (hB : IsB b k nd a K L) (hbz : sizeB b <= 1000) (hok : okL b) (bx : List Box) :
  ev cfg (.call 8 [.agg [.dat N, .dat F], .agg [I k, I nd, I a, .dat K, .dat L]] bx) = some (.ret (I (chkB ok n b)) none) := by
 obtain ⟨oN, oF⟩ := isN_one h
 obtain ⟨oK, oL⟩ := isB_one hB
 obtain ⟨r, q, hr, hn⟩ := ncheck_ev h hfl hnd hz
 unfold chkB
 cases ok with
 | false =>
  rw [if_pos rfl]
  have h0 : ¬ OkN n := fun h => by have := hk.2 h; cases this
  have : (r != 0) = true := by simpa using fun e => h0 (hr.1 e)
  exact es (bcheck_arg oK oL oN oF hn this)
 | true =>
  rw [if_neg (by decide)]
  obtain rfl : r = 0 := hr.2 (hk.1 rfl)
  have hlg := fun bx : List Box => long_ev b hB (by omega) bx
  cases h1 : longB b with
  | true =>
   rw [h1] at hlg
   rw [if_pos rfl]
   exact es (bcheck_long oK oL oN oF hn hlg)
  | false =>
   rw [h1] at hlg
   rw [if_neg (by decide)]
   have hns := fun bx : List Box => nest_ev h hfl b hB hok bx
   cases h2 : nestB n b with
   | false =>
    rw [h2] at hns
    rw [if_pos rfl]
    exact es (bcheck_form oK oL oN oF hn hlg hns)
   | true =>
    rw [h2] at hns
    rw [if_neg (by decide)]
    have hno := fun bx : List Box => nodes_ev h hfl b hB hbz bx
    have hlen := nodesB_len hfl b
    have hsl : (sortI (nodesB n b)).length = (nodesB n b).length := List.length_mergeSort ..
    have hcl := fun bx : List Box => clone_ev (sortI (nodesB n b)) (by rw [hsl]; omega) bx
    unfold dupB
    cases hs : sortI (nodesB n b) with
    | nil =>
     rw [hs] at hno hcl
     have : decide ((Lib.compact ([] : List Int)).length < ([] : List Int).length) = false := by simp
     rw [this, if_neg (by decide)]
     exact es (bcheck_nil oK oL oN oF hn hlg hns hno hcl)
    | cons y ys =>
     rw [hs] at hno hcl
     have hzl : (y :: ys).length < 4611686018427387904 := by rw [<- hs, hsl]; omega
     have e : decide (((rowsOf (Lib.compact (y :: ys))).length : Int) < ((intR (y :: ys)).length : Int)) = decide ((Lib.compact (y :: ys)).length < (y :: ys).length) := by
      rw [show (rowsOf (Lib.compact (y :: ys))).length = (Lib.compact (y :: ys)).length by simp [rowsOf], intR_len]
      exact decide_eq_decide.2 (by omega)
     cases hd : decide ((Lib.compact (y :: ys)).length < (y :: ys).length) with
     | true =>
      rw [hd] at e
      rw [if_pos rfl]
      exact es (bcheck_same oK oL oN oF hn hlg hns hno hcl (intRows_intR _) hzl e)
     | false =>
      rw [hd] at e
      rw [if_neg (by decide)]
      exact es (bcheck_ok oK oL oN oF hn hlg hns hno hcl (intRows_intR _) hzl e)
theorem inN_iff {n : Nt} {i : Int} : inN n i = true ↔ 0 <= i /\ i < n.nodes.length := by simp [inN]
theorem right_in {n : Nt} {k nd a : Int} {ks : List Blk} {ls : List (Int × Int × Int)} (h : rightB n k nd a ks ls = true) (hk : k = 2 ∨ k = 4 ∨ k = 5 ∨ k = 6 ∨ k = 7 ∨ k = 8) : inN n nd = true := by
 have sp : ∀ kd m, splitN n nd kd m = true -> inN n nd = true := fun kd m h => by
  unfold splitN at h
  rw [Bool.and_eq_true] at h
  exact h.1
 unfold rightB at h
 split at h
 ·cases h
 split at h
 ·omega
 split at h
 ·rw [Bool.and_eq_true] at h; exact h.1
 split at h
 ·rw [Bool.and_eq_true] at h; exact h.1
 split at h
 ·omega
 split at h
 ·exact sp _ _ h
 split at h
 ·exact sp _ _ h
 split at h
 ·exact sp _ _ h
 split at h
 ·rw [Bool.and_eq_true] at h; exact sp _ _ h.2
 ·omega
theorem nodeL_in {n : Nt} (hE : Ends n) {k nd a : Int} {ks : List Blk} {ls : List (Int × Int × Int)} (h : rightB n k nd a ks ls = true) : ∀ z ∈ nodeL n k nd, 0 <= z /\ z < n.nodes.length := by
 intro z hz
 unfold nodeL at hz
 split at hz
 ·rename_i h6
  rw [List.mem_append, List.mem_map, List.mem_singleton] at hz
  rcases hz with ⟨j, hj, rfl⟩ | rfl
  ·have hlt := outs_lt hj
   rw [to_at hlt]
   exact (hE _ (List.getElem_mem hlt)).2
  ·exact inN_iff.1 (right_in h (by omega))
 ·split at hz
  ·rename_i hk
   rw [List.mem_singleton] at hz
   subst hz
   exact inN_iff.1 (right_in h (by omega))
  ·cases hz
theorem nodes_in {n : Nt} (hE : Ends n) : ∀ b, nestB n b = true -> ∀ z ∈ nodesB n b, 0 <= z /\ z < n.nodes.length
 | .mk k nd a ks ls, h, z, hz => by
  rw [nestB, Bool.and_eq_true, Bool.not_eq_true'] at h
  rw [nodesB, List.mem_append] at hz
  rcases hz with hz | hz
  ·exact nodeL_in hE h.1 z hz
  ·exact go k ks h.2 z hz
where
 go (pk : Int) : ∀ bs, nestB.go n pk bs = false -> ∀ z ∈ nodesB.go n bs, 0 <= z /\ z < n.nodes.length
 | [], _, z, hz => by rw [nodesB.go] at hz; cases hz
 | b :: bs, h, z, hz => by
  rw [nestB.go, Bool.or_eq_false_iff] at h
  rw [nodesB.go, List.mem_append] at hz
  rcases hz with hz | hz
  ·have h1 := h.1
   simp only [Bool.or_eq_false_iff, Bool.not_eq_false'] at h1
   exact nodes_in hE b h1.2.2.2 z hz
  ·exact go pk bs h.2 z hz
def leafN (n : Nt) (z : Int) : Bool := [3, 4, 8].any fun y => kindN n z == y
theorem leafp_ev {n : Nt} {N F : D} (h : IsN n N F) {p : Nat} (hp : p < n.nodes.length) {bx : List Box} {l : Nat} (hl : l < bx.length) (hb : bx[l]? = some [.dat N, .dat F]) :
  ev cfg (.call 28 [I p, .ptr l 0] bx) = some (.ret (B (!leafN n p)) none) := by
 obtain ⟨oN, oF⟩ := isN_one h
 obtain ⟨nr, fr, hN, hnr, _⟩ := h
 obtain ⟨row, hrow, _, _, op, k, K, rfl, hT⟩ := hnr.get hp
 have hc := fun bx : List Box => intHas_ev [3, 4, 8] (.sl 1 [[dI 3], [dI 4], [dI 8]]) ⟨1, rfl, by simp, rfl⟩ (by decide) n.nodes[p].k bx
 rw [es (leafp_f hN oF hl hb hrow hc), leafN, kind_at hp]
theorem delRows_ev {n : Nt} {N F : D} (h : IsN n N F) {bx : List Box} {l : Nat} (hl : l < bx.length) (hb : bx[l]? = some [.dat N, .dat F]) : ∀ zs : List Int, (∀ z ∈ zs, 0 <= z /\ z < n.nodes.length) →
  delRows (ev cfg) 28 [l] bx zs = some (zs.filter (leafN n))
 | [], _ => rfl
 | z :: zs, hz => by
  have h1 := hz z mcs
  obtain ⟨p, rfl⟩ : ∃ p : Nat, z = p := ⟨z.toNat, by omega⟩
  have hc := leafp_ev h (p := p) (by omega) hl hb
  have ih := delRows_ev h hl hb zs fun y hy => hz y (mcm _ hy)
  unfold delRows
  rw [show ([l].map fun l => PV.ptr l 0) = [.ptr l 0] from rfl, hc, seqO_some]
  simp only
  rw [ih, seqO_some, List.filter_cons]
  cases leafN n p <;> rfl
def natI (m : Nat) : List Int := (List.range m).map fun (i : Nat) => (i : Int)
def lvL (n : Nt) (b : Blk) : List Int := ((if kB b = 10 then natI n.nodes.length else sortI (nodesB n b))).filter (leafN n)
theorem rules_nodes {n : Nt} {nd a : Int} {ks : List Blk} {ls : List (Int × Int × Int)} (h : rightB n 10 nd a ks ls = true) : nodesB n (.mk 10 nd a ks ls) = [] := by
 unfold rightB at h
 split at h
 ·cases h
 rw [if_pos (by omega), Bool.and_eq_true] at h
 have : ks = [] := by
  have := h.2
  rw [beq_iff_eq] at this
  exact List.eq_nil_of_length_eq_zero (by omega)
 subst this
 rw [nodesB, nodesB.go, nodeL, if_neg (by decide), if_neg (by omega)]; rfl
theorem natI_in {m : Nat} : ∀ z ∈ natI m, 0 <= z /\ z < m := by
 intro z hz
 simp only [natI, List.mem_map, List.mem_range] at hz
 obtain ⟨i, hi, rfl⟩ := hz
 omega
theorem leaves_ev {n : Nt} {N F : D} (h : IsN n N F) (hfl : n.flows.length <= 1000) (hnd : n.nodes.length <= 1000) (hz : ∀ t ∈ termsN n, sizeT t <= 1000000) (ok : Bool) (hk : ok = true ↔ OkN n)
  (b : Blk) {k nd a : Int} {K L : D} (hB : IsB b k nd a K L) (hbz : sizeB b <= 1000) (hokl : okL b) :
  ∃ X rows, IsS 1 rows X /\ (chkB ok n b = 0 -> rows = rowsOf (lvL n b)) /\ ∀ bx : List Box, ev cfg (.call 11 [.agg [.dat N, .dat F], .agg [I k, I nd, I a, .dat K, .dat L]] bx) = some (.ret (.tup [.dat X, I (chkB ok n b)]) none) := by
 have hh := h
 obtain ⟨oN, oF⟩ := isN_one h
 obtain ⟨oK, oL⟩ := isB_one hB
 have hc := fun bx : List Box => bcheck_ev h hfl hnd hz ok hk b hB hbz hokl bx
 have hn := fun bx : List Box => nodes_ev h hfl b hB hbz bx
 by_cases h0 : chkB ok n b = 0
 ·rw [h0] at hc ⊢
  have hok : OkN n /\ nestB n b = true := by
   unfold chkB at h0
   split at h0
   ·cases h0
   rename_i h1
   split at h0
   ·cases h0
   split at h0
   ·cases h0
   rename_i h3
   exact ⟨hk.1 (by simpa using h1), by simpa using h3⟩
  have hE := leads_ends hok.1.2.2.2.1
  have hin := nodes_in hE b hok.2
  have hins : ∀ z ∈ sortI (nodesB n b), 0 <= z /\ z < n.nodes.length := fun z hz => hin z ((List.mergeSort_perm _ _).mem_iff.1 hz)
  have hlen := nodesB_len hfl b
  have hsl : (sortI (nodesB n b)).length = (nodesB n b).length := List.length_mergeSort ..
  obtain ⟨k', nd', a', ks, ls⟩ := b
  have hkb : k' = k := by rw [IsB] at hB; exact hB.1.symm
  subst hkb
  by_cases h10 : k' = 10
  ·subst h10
   have hnil : nodesB n (.mk 10 nd' a' ks ls) = [] := by
    have := hok.2
    rw [nestB, Bool.and_eq_true] at this
    exact rules_nodes this.1
   rw [hnil, show sortI ([] : List Int) = [] by simp [sortI]] at hn
   have hnd0 : 0 < n.nodes.length := by
    have hs := hok.1.2.2.2.2.2.1
    rcases Nat.eq_zero_or_pos n.nodes.length with h | h
    ·have he : n.nodes = [] := List.eq_nil_of_length_eq_zero h
     rw [startN, he, firstK] at hs
     exact absurd hs (by decide)
    ·exact h
   obtain ⟨nr, fr, hN, hnr, _⟩ := h
   have hnl : nr.length = n.nodes.length := hnr.1
   refine ⟨.sl 1 (rowsOf ((natI n.nodes.length).filter (leafN n))), _, isS_sl 1 _, fun _ => by rw [lvL]; simp [kB], fun bx => ?_⟩
   have loop : ∀ (m i : Nat) (acc : List Int), i + m = nr.length -> acc = natI i -> 0 < i →
     ev cfg (.loop 11 7 (qs bx (sh11_7 (.ptr bx.length 0) (.own true 1 (intR acc)) (I nr.length) (I i)) [[.dat N, .dat F], [I 10, I nd, I a, .dat K, .dat L]])) =
      some (.loop (.exit 0) (qs bx (se11_7 (.ptr bx.length 0) (.own true 1 (intR (natI nr.length)))) [[.dat N, .dat F], [I 10, I nd, I a, .dat K, .dat L]])) := by
    intro m
    induction m with
    | zero =>
     intro i acc hi ha _
     have : i = nr.length := by omega
     subst this
     rw [ha]
     exact es (leaves_rend oN oF oK oL (Nat.le_refl _))
    | succ m ih =>
     intro i acc hi ha hp
     have hal : acc.length = i := by rw [ha]; simp [natI]
     have h2 := ih (i + 1) (acc ++ [(i : Int)]) (by omega) (by rw [ha]; simp [natI, List.range_succ]) (by omega)
     rw [intR_app] at h2
     exact es ((leaves_r1 oN oF oK oL (by omega) (by omega) (by rw [intR_len]; omega)).trans h2)
   have l0 := es ((leaves_r0 (k := 10) (nd := nd) (a := a) (bx := bx) (i := 0) oN oF oK oL (by omega) (by omega)).trans (loop (nr.length - 1) 1 [0] (by omega) (by simp [natI, List.range_succ]) (by omega)))
   have hd := delRows_ev hh (bx := bx ++ [[.dat N, .dat F], [I 10, I nd, I a, .dat K, .dat L]]) (l := bx.length) (by simp) (by simp) (natI nr.length) (by rw [hnl]; exact natI_in)
   rw [show n.nodes.length = nr.length from hnl.symm]
   refine es (leaves_rules hN oF oK oL hc hn l0 (intRows_intR _) (by simp [natI]; omega) (fun e => ?_) hd)
   have := congrArg List.length e
   rw [natI, List.length_map, List.length_range, List.length_nil] at this
   omega
  ·have hk10 : (k' == 10) = false := by simpa using h10
   cases hs : sortI (nodesB n (.mk k' nd' a' ks ls)) with
   | nil =>
    rw [hs] at hn
    refine ⟨.nil, [], isS_nil 1, fun _ => by rw [lvL, kB, if_neg h10, hs]; rfl, fun bx => es (leaves_nil oN oF oK oL hc hk10 hn)⟩
   | cons y ys =>
    rw [hs] at hn hins hsl
    refine ⟨.sl 1 (rowsOf ((y :: ys).filter (leafN n))), _, isS_sl 1 _, fun _ => by rw [lvL, kB, if_neg h10, hs], fun bx => ?_⟩
    exact es (leaves_own oN oF oK oL hc hk10 hn (intRows_intR _) (by omega) (by simp) (delRows_ev hh (by simp) (by simp) _ hins))
 ·refine ⟨.nil, [], isS_nil 1, fun e => absurd e h0, fun bx => es (leaves_err oN oF oK oL hc (by simpa using h0))⟩
def hereN (k nd q : Int) : Nat := if (((k == 2) || (decide (k >= 4) && decide (k <= 8))) && (nd == q)) = true then 1 else 0
theorem nodeL_cnt {n : Nt} {k nd q : Int} (h6 : k ≠ 6) : (nodeL n k nd).count q = hereN k nd q := by
 unfold nodeL hereN
 rw [if_neg h6]
 by_cases hk : k = 2 ∨ k = 4 ∨ k = 5 ∨ k = 7 ∨ k = 8
 ·rw [if_pos hk]
  have : ((k == 2) || (decide (k >= 4) && decide (k <= 8))) = true := by
   simp only [Bool.or_eq_true, Bool.and_eq_true, beq_iff_eq, dqE]; omega
  rw [this, Bool.true_and]
  by_cases hq : nd = q
  ·subst hq; simp
  ·simp [hq]
 ·rw [if_neg hk]
  have : ((k == 2) || (decide (k >= 4) && decide (k <= 8))) = false := by
   rw [Bool.eq_false_iff]
   simp only [ne_eq, Bool.or_eq_true, Bool.and_eq_true, beq_iff_eq, dqE]; omega
  rw [this, Bool.false_and]; rfl
theorem nodeL_cnt6 {n : Nt} {nd q : Int} : (nodeL n 6 nd).count q = ((outsN n nd).map (toN n)).count q + (if (nd == q) = true then 1 else 0) := by
 unfold nodeL
 rw [if_pos rfl, List.count_append]
 by_cases hq : nd = q
 ·subst hq; simp
 ·simp [hq]
theorem cnt_le (l : List Int) (q : Int) : l.count q <= l.length := List.count_le_length
theorem times_outs {n : Nt} {N F K L : D} (h : IsN n N F) (hfl : n.flows.length <= 1000) {k nd a q : Int} (oK : K.oneC = true) (oL : L.oneC = true) (bx : List Box) : ∀ (os : List Nat) (i t : Nat), (outsN n nd).drop i = os -> t + os.length <= 1000000 →
  ev cfg (.loop 15 7 (qs bx (sh15_7 (I q) (.ptr bx.length 0) (.ptr (bx.length + 1) 0) (I t) (.dat (mkD 1 (natR (outsN n nd)))) (I (natR (outsN n nd)).length) (I i)) [[.dat N, .dat F], [I k, I nd, I a, .dat K, .dat L]])) =
   some (.loop (.exit 0) (qs bx (se15_7 (I q) (.ptr bx.length 0) (.ptr (bx.length + 1) 0) (I ((t + (os.map (toN n)).count q : Nat) : Int))) [[.dat N, .dat F], [I k, I nd, I a, .dat K, .dat L]]))
 | [], i, t, hd, _ => by
  obtain ⟨oN, oF⟩ := isN_one h
  exact es (times_oend oF oN oK oL (mkD_one 1 _) (by rw [natR_len]; exact drop_nil hd))
 | j :: os, i, t, hd, ht => by
  obtain ⟨oN, oF⟩ := isN_one h
  have hh := h
  obtain ⟨nr, fr, hN, hnr, _, hF, hfr, _⟩ := h
  obtain ⟨hget, hd', hlt⟩ := drop_cons hd
  have hj : j < n.flows.length := outs_lt (mog hget)
  obtain ⟨row, hrow, _, _, op, m, K2, rfl, hT⟩ := hfr.get hj
  have hol : (outsN n nd).length <= 1000 := Nat.le_trans (idxs_len _ _ _) hfl
  have hr := times_o (bx := bx) (k := k) (nd := nd) (a := a) (q := q) (t := (t : Int)) (i := i) (p := j) (ors := natR (outsN n nd)) hF oN oK oL (by simp [natR, hget]) (mkD_is 1 _) hrow (by rw [natR_len]; exact hlt) (by rw [natR_len]; omega) (by omega) (by simp at ht; omega)
  have htj : toN n j = n.flows[j].to := to_at hj
  have h2 := times_outs hh hfl (k := k) (a := a) (q := q) oK oL bx os (i + 1) (if (toN n j == q) = true then t + 1 else t) hd' (by simp at ht; split <;> omega)
  refine (es (hr.trans ?_))
  have e : (if (n.flows[j].to == q) = true then (t : Int) + 1 else t) = ((if (toN n j == q) = true then t + 1 else t : Nat) : Int) := by rw [htj]; split <;> simp
  rw [e, h2, List.map_cons, List.count_cons]
  have e2 : (if (toN n j == q) = true then t + 1 else t) + (os.map (toN n)).count q = t + ((os.map (toN n)).count q + if (toN n j == q) = true then 1 else 0) := by split <;> omega
  rw [e2]
theorem times_ev {n : Nt} {N F : D} (h : IsN n N F) (hfl : n.flows.length <= 1000) (q : Int) : ∀ (b : Blk) {k nd a : Int} {K L : D}, IsB b k nd a K L -> sizeB b <= 1000 -> ∀ bx : List Box,
  ev cfg (.call 15 [.agg [.dat N, .dat F], .agg [I k, I nd, I a, .dat K, .dat L], I q] bx) = some (.ret (I (((nodesB n b).count q : Nat) : Int)) none)
 | .mk k0 nd0 a0 ks ls, k, nd, a, K, L, hB, hz, bx => by
  obtain ⟨oN, oF⟩ := isN_one h
  have hlen := nodesB_len hfl (.mk k0 nd0 a0 ks ls)
  obtain ⟨oK, oL⟩ := isB_one hB
  rw [IsB] at hB
  obtain ⟨rfl, rfl, rfl, _, _, _, rows, hK, hks, hmax, hL, _, _⟩ := hB
  rw [nodesB, List.count_append] 
  rw [nodesB, List.length_append] at hlen
  rw [sizeB] at hz hlen
  have hcl := cnt_le (nodeL n k nd) q
  have hkl := loop ks (k := k) (nd := nd) (a := a) (L := L) (i := 0) ((nodeL n k nd).count q) hK rfl hks (by rw [isBs_len hks]; exact hmax) (by omega) oL (by omega) bx
  by_cases h6 : k = 6
  ·subst h6
   have ho := times_outs h hfl (k := 6) (nd := nd) (a := a) (q := q) oK oL bx (outsN n nd) 0 (if (nd == q) = true then 1 else 0) rfl (by have := idxs_len (fun f : Fl => f.fr == nd) n.flows 0; simp only [outsN]; split <;> omega)
   have e : (((if (nd == q) = true then 1 else 0 : Nat) : Nat) : Int) = (if (nd == q) = true then 1 else 0 : Int) := by split <;> rfl
   rw [e] at ho
   rw [nodeL_cnt6, Nat.add_comm ((outsN n nd).map (toN n) |>.count q)] at hkl ⊢
   exact es (times_6 oF oN hK oL (mkD_is 1 _) (fun bx => routs_ev h (by omega) nd bx) ho hkl)
  ·rw [nodeL_cnt h6] at hkl ⊢
   have e : ((hereN k nd q : Nat) : Int) = (if (((k == 2) || (decide (k >= 4) && decide (k <= 8))) && (nd == q)) = true then 1 else 0 : Int) := by unfold hereN; split <;> rfl
   rw [e] at hkl
   exact es (times_f oF oN hK oL (by simpa using h6) hkl)
where
 loop : ∀ (bs : List Blk) {rows rs : List (List D)} {K L : D} {k nd a : Int} {i : Nat} (t : Nat), IsS 5 rows K -> rows.drop i = rs -> IsB.IsBs bs rs -> rows.length < 9223372036854775808 -> sizeB.go bs <= 1000 -> L.oneC = true -> t + 1001 * sizeB.go bs <= 100000000 -> ∀ bx : List Box,
  ev cfg (.loop 15 13 (qs bx (sh15_13 (I q) (.ptr bx.length 0) (I t) (.dat K) (I rows.length) (I i)) [[.dat N, .dat F], [I k, I nd, I a, .dat K, .dat L]])) =
   some (.loop (.exit 2) (qs bx (se15_13 (I ((t + (nodesB.go n bs).count q : Nat) : Int))) [[.dat N, .dat F], [I k, I nd, I a, .dat K, .dat L]]))
 | [], rows, rs, K, L, k, nd, a, i, t, hK, hr, hbs, hmax, hz, oL, ht, bx => by
  obtain ⟨oN, oF⟩ := isN_one h
  have oK : K.oneC = true := by obtain ⟨_, _, _, h⟩ := hK; exact h
  rw [IsB.IsBs] at hbs
  subst hbs
  rw [nodesB.go]
  exact es (times_kend oF oN oK oL (drop_nil hr))
 | b :: bs, rows, rs, K, L, k, nd, a, i, t, hK, hr, hbs, hmax, hz, oL, ht, bx => by
  obtain ⟨oN, oF⟩ := isN_one h
  rw [IsB.IsBs] at hbs
  obtain ⟨k2, n2, a2, K2, L2, rest, rfl, hB, hrest⟩ := hbs
  obtain ⟨hget, hr', hlt⟩ := drop_cons hr
  rw [sizeB.go] at hz ht
  have p1 := sizeB_pos b
  have p2 := sizeB_pos.go bs
  have hl1 := nodesB_len hfl b
  have hc1 := cnt_le (nodesB n b) q
  rw [nodesB.go, List.count_append, <- Nat.add_assoc]
  have h2 := loop bs (k := k) (nd := nd) (a := a) (i := i + 1) (t + (nodesB n b).count q) hK hr' hrest hmax (by omega) oL (by omega) bx
  exact es ((times_k oF oN hK oL hget (isB_one hB).1 (isB_one hB).2 hlt hmax (times_ev h hfl q b hB (by omega)) (by omega) (by omega)).trans h2)
end Go.Proofs.YtifckjhggamefaaDoor
