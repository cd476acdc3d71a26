/- What block.nodes answers: the nodes of a block and of all in it, sorted. No condition. -/
import Derived.Test.YtifckjhggamefaaDoorGl
import Derived.Test.YtifckjhggamefaaDoorGk
import Derived.Test.YtifckjhggamefaaDoorGd
import Derived.Test.YtifckjhggamefaaDoorGe
import Derived.Test.YtifckjhggamefaaDoorGf
import Derived.Test.YtifckjhggamefaaDoorGg
import Derived.Test.YtifckjhggamefaaDoorGi
set_option linter.unusedSimpArgs false
set_option linter.unusedVariables false
set_option linter.unusedSectionVars false
namespace Go.Proofs.YtifckjhggamefaaDoor
open Go Go.Vx
set_option maxRecDepth 10000
set_option maxHeartbeats 1000000
def nodeL (n : Nt) (k nd : Int) : List Int := if k = 6 then (outsN n nd).map (toN n) ++ [nd] else if k = 2 ∨ k = 4 ∨ k = 5 ∨ k = 7 ∨ k = 8 then [nd] else []
def nodesB (n : Nt) : Blk -> List Int
 | .mk k nd _ ks _ => nodeL n k nd ++ go ks
where
 go : List Blk -> List Int
 | [] => []
 | b :: bs => nodesB n b ++ go bs
abbrev upd (bx : List Box) (l : Nat) (acc xs : List Int) : List Box := if (!xs.isEmpty) = true then bx.set l [mkS 1 (intR (acc ++ xs))] else bx
abbrev updL (lo : Option Nat) (l : Nat) (xs : List Int) : Option Nat := if (!xs.isEmpty) = true then some l else lo
theorem upd_len (bx : List Box) (l : Nat) (acc xs : List Int) : (upd bx l acc xs).length = bx.length := by unfold upd; split <;> simp
theorem upd_get {bx : List Box} {l : Nat} {acc : List Int} (h : bx[l]? = some [mkS 1 (intR acc)]) (xs : List Int) : (upd bx l acc xs)[l]? = some [mkS 1 (intR (acc ++ xs))] := by
 have hl : l < bx.length := (gsi.1 h).1
 unfold upd
 cases xs with
 | nil => simpa using h
 | cons x xs => simp [hl]
theorem upd_ne {bx : List Box} {l l0 : Nat} {b : Box} (hne : l ≠ l0) (h : bx[l0]? = some b) (acc xs : List Int) : (upd bx l acc xs)[l0]? = some b := by
 unfold upd
 split
 ·rw [List.getElem?_set_ne hne]; exact h
 ·exact h
theorem upd_upd (bx : List Box) (l : Nat) (acc xs ys : List Int) : upd (upd bx l acc xs) l (acc ++ xs) ys = upd bx l acc (xs ++ ys) := by
 unfold upd
 cases xs with
 | nil => simp
 | cons x xs =>
  cases ys with
  | nil => simp
  | cons y ys => simp
theorem updL_updL (lo : Option Nat) (l : Nat) (xs ys : List Int) : updL (updL lo l xs) l ys = updL lo l (xs ++ ys) := by
 unfold updL
 cases xs <;> cases ys <;> simp
theorem nodeL_len {n : Nt} (hf : n.flows.length <= 1000) (k nd : Int) : (nodeL n k nd).length <= 1001 := by
 unfold nodeL
 split
 ·have := idxs_len (fun f : Fl => f.fr == nd) n.flows 0
  rw [List.length_append, List.length_map]
  simp only [outsN, List.length_singleton]
  omega
 ·split <;> simp
theorem box_ne {bx : List Box} {l l0 : Nat} {u : PV} {p q : PV} (h0 : bx[l0]? = some [p, q]) (h : bx[l]? = some [u]) : l ≠ l0 := by
 rintro rfl
 rw [h0] at h
 simp at h
theorem outs_flow {n : Nt} {nd : Int} {j : Nat} (h : j ∈ outsN n nd) : j < n.flows.length := outs_lt h
theorem nodes1_loop {n : Nt} {N F : D} (h : IsN n N F) (hsz : n.flows.length <= 1000) (nd : Int) {l l0 : Nat} (hne : l ≠ l0) : ∀ (os : List Nat) (i : Nat) (acc : List Int) (bx : List Box) (lo : Option Nat) (c : Box), (outsN n nd).drop i = os -> acc.length + os.length <= 1000000000 →
  bx[l0]? = some [.dat N, .dat F] -> bx[l]? = some [mkS 1 (intR acc)] -> (lo = none ∨ lo = some l) -> c.all (cellLt (bx.length + 1)) = true →
  ev cfg (.loop 38 9 ⟨(sh38_9 (.ptr l0 0) (.ptr l 0) (.ptr bx.length 0) (.dat (mkD 1 (natR (outsN n nd)))) (I (natR (outsN n nd)).length) (I i)), bx ++ [c], bx.length, lo, false⟩) =
   some (.loop (.exit 3) ⟨(se38_9 (.ptr l 0) (.ptr bx.length 0)), upd bx l acc (os.map (toN n)) ++ [c], bx.length, updL lo l (os.map (toN n)), false⟩) := by
 have hh := h
 obtain ⟨oN, _⟩ := isN_one h
 obtain ⟨nr, fr, hN, _, _, hF, hfr, hmax⟩ := h
 intro os
 induction os with
 | nil =>
  intro i acc bx lo c hd hs b0 b1 hlo hc
  have hl0 : l0 < bx.length := (gsi.1 b0).1
  have hl : l < bx.length := (gsi.1 b1).1
  exact es (nodes1_end (mkD_one _ _) hl0 hl hc (by rw [natR_len]; exact drop_nil hd) lo)
 | cons j os ih =>
  intro i acc bx lo c hd hs b0 b1 hlo hc
  have hl0 : l0 < bx.length := (gsi.1 b0).1
  have hl : l < bx.length := (gsi.1 b1).1
  obtain ⟨hget, hd', hlt⟩ := drop_cons hd
  have hj : j < n.flows.length := outs_flow (nd := nd) (mog hget)
  obtain ⟨row, hrow, _, _, op, m, K, rfl, hT⟩ := hfr.get hj
  have hg : (natR (outsN n nd))[i]? = some [dI (j : Nat)] := by simp [natR, hget]
  have hm : (natR (outsN n nd)).length < 9223372036854775808 := by
   have := idxs_len (fun f : Fl => f.fr == nd) n.flows 0
   rw [natR_len]; simp only [outsN]; omega
  have hx : (natR (outsN n nd)).length = (outsN n nd).length := natR_len _
  have to : toN n j = n.flows[j].to := to_at hj
  simp only [List.length_cons] at hs
  have rest := ih (i + 1) (acc ++ [toN n j]) (bx.set l [mkS 1 (intR (acc ++ [toN n j]))]) (some l) c hd' (by simp; omega) (by rw [List.getElem?_set_ne hne]; exact b0) (by simp [hl]) (.inr rfl) (by simpa using hc)
  simp only [lls] at rest
  have e1 : upd (bx.set l [mkS 1 (intR (acc ++ [toN n j]))]) l (acc ++ [toN n j]) (os.map (toN n)) = upd bx l acc ((j :: os).map (toN n)) := by
   have := upd_upd bx l acc [toN n j] (os.map (toN n))
   simpa [upd] using this
  have e2 : updL (some l) l (os.map (toN n)) = updL lo l ((j :: os).map (toN n)) := by
   unfold updL; cases os <;> simp
  rw [e1, e2] at rest
  refine es (Eq.trans ?_ rest)
  cases acc with
  | nil =>
   refine (nodes1_round0 hF oN (mkD_is _ _) hl0 hl b0 hc hg hrow (by rw [hx]; exact hlt) hm lo hlo b1).trans ?_
   rw [to]; rfl
  | cons a acc =>
   refine (nodes1_round1 (acc := intR (a :: acc)) hF oN (mkD_is _ _) hl0 hl b0 hc hg hrow (by rw [hx]; exact hlt) hm lo hlo (by rw [intR_len]; simp at hs ⊢; omega) b1).trans ?_
   have e : (.own true 1 (intR (a :: acc) ++ [[dI n.flows[j].to]]) : PV) = mkS 1 (intR (a :: acc ++ [n.flows[j].to])) := by rw [intR_app]; rfl
   rw [to, e]
theorem nodes1_ev {n : Nt} {N F : D} (h : IsN n N F) (hsz : n.flows.length <= 1000) {k nd a : Int} {K L : D} (oK : K.oneC = true) (oL : L.oneC = true) {bx : List Box} {l l0 : Nat} {acc : List Int} (hs : acc.length + 1001 <= 1000000000)
  (b0 : bx[l0]? = some [.dat N, .dat F]) (b1 : bx[l]? = some [mkS 1 (intR acc)]) :
  ev cfg (.call 38 [.agg [I k, I nd, I a, .dat K, .dat L], .ptr l0 0, .ptr l 0] bx) = some (.ret (.tup []) (if (!(nodeL n k nd).isEmpty) = true then some ⟨bx.set l [mkS 1 (intR (acc ++ nodeL n k nd))], l, false⟩ else none)) := by
 have hl0 : l0 < bx.length := (gsi.1 b0).1
 have hl : l < bx.length := (gsi.1 b1).1
 have hne := box_ne b0 b1
 obtain ⟨oN, oF⟩ := isN_one h
 have hks : ((intR acc).length + 1) * 8 <= 140737488355328 := by rw [intR_len]; omega
 have one : ∀ (r : List Int), r = [nd] -> nodeL n k nd = r -> ev cfg (.call 38 [.agg [I k, I nd, I a, .dat K, .dat L], .ptr l0 0, .ptr l 0] bx) = some (.ret (.tup []) (some ⟨bx.set l [mkS 1 (intR (acc ++ [nd]))], l, false⟩)) -> ev cfg (.call 38 [.agg [I k, I nd, I a, .dat K, .dat L], .ptr l0 0, .ptr l 0] bx) = some (.ret (.tup []) (if (!(nodeL n k nd).isEmpty) = true then some ⟨bx.set l [mkS 1 (intR (acc ++ nodeL n k nd))], l, false⟩ else none)) := by
  intro r hr hn he
  rw [hn, hr]
  exact he
 have snoc : ∀ (a' : Int) (zs : List Int), (.own true 1 (intR (a' :: zs) ++ [[dI nd]]) : PV) = mkS 1 (intR ((a' :: zs) ++ [nd])) := fun a' zs => by rw [intR_app]; rfl
 by_cases k6 : k = 6
 ·subst k6
  have e : nodeL n 6 nd = (outsN n nd).map (toN n) ++ [nd] := by rw [nodeL, if_pos rfl]
  rw [e]
  have hne2 : (!((outsN n nd).map (toN n) ++ [nd]).isEmpty) = true := by simp
  rw [if_pos hne2, <- List.append_assoc]
  have hl' := nodes1_loop h hsz nd hne (outsN n nd) 0 acc bx none
  have hlen : (outsN n nd).length <= 1000 := by
   have := idxs_len (fun f : Fl => f.fr == nd) n.flows 0
   simp only [outsN]; omega
  have hloop := fun (c : Box) (hc : c.all (cellLt (bx.length + 1)) = true) => hl' c rfl (by omega) b0 b1 (.inl rfl) hc
  have hO := fun bx : List Box => outs_ev h (by omega) nd bx
  cases ho : (outsN n nd).map (toN n) with
  | nil =>
   rw [ho] at hloop
   cases acc with
   | nil => exact es (nodes1_k6_0 oF oN (mkD_is _ _) oK oL hl0 hl b0 b1 hO hloop)
   | cons a' zs =>
    rw [List.append_nil, <- snoc]
    exact es (nodes1_k6_1 (acc := intR (a' :: zs)) oF oN (mkD_is _ _) oK oL hl0 hl hks b0 b1 hO hloop)
  | cons o os =>
   rw [ho] at hloop
   have hne3 : ∃ z zs, acc ++ o :: os = z :: zs := by cases acc <;> simp
   obtain ⟨z, zs, hz⟩ := hne3
   have hu : ∀ lo, upd bx l acc (o :: os) = bx.set l [.own true 1 (intR (acc ++ o :: os))] /\ updL lo l (o :: os) = some l := fun lo => by
    refine ⟨?_, by simp [updL]⟩
    unfold upd; rw [hz]; rfl
   have hol : (o :: os).length <= 1000 := by rw [<- ho, List.length_map]; exact hlen
   rw [(hu none).1, (hu none).2] at hloop
   have := nodes1_k6_2 (u := mkS 1 (intR acc)) (acc2 := intR (acc ++ o :: os)) (a := a) oF oN (mkD_is _ _) oK oL hl0 hl (by rw [intR_len, List.length_append]; omega) b0 b1 hO hloop
   rw [hz, snoc] at this
   rw [hz]
   exact es this
 ·by_cases k2 : k = 2
  ·subst k2
   refine one _ rfl (by rw [nodeL, if_neg (by decide), if_pos (by decide)]) ?_
   cases acc with
   | nil => exact es (nodes1_k2_0 oK oL hl0 hl b1)
   | cons a' zs => rw [<- snoc]; exact es (nodes1_k2_1 (acc := intR (a' :: zs)) oK oL hl0 hl hks b1)
  by_cases k4 : k = 4
  ·subst k4
   refine one _ rfl (by rw [nodeL, if_neg (by decide), if_pos (by decide)]) ?_
   cases acc with
   | nil => exact es (nodes1_k4_0 oK oL hl0 hl b1)
   | cons a' zs => rw [<- snoc]; exact es (nodes1_k4_1 (acc := intR (a' :: zs)) oK oL hl0 hl hks b1)
  by_cases k5 : k = 5
  ·subst k5
   refine one _ rfl (by rw [nodeL, if_neg (by decide), if_pos (by decide)]) ?_
   cases acc with
   | nil => exact es (nodes1_k5_0 oK oL hl0 hl b1)
   | cons a' zs => rw [<- snoc]; exact es (nodes1_k5_1 (acc := intR (a' :: zs)) oK oL hl0 hl hks b1)
  by_cases k7 : k = 7
  ·subst k7
   refine one _ rfl (by rw [nodeL, if_neg (by decide), if_pos (by decide)]) ?_
   cases acc with
   | nil => exact es (nodes1_k7_0 oK oL hl0 hl b1)
   | cons a' zs => rw [<- snoc]; exact es (nodes1_k7_1 (acc := intR (a' :: zs)) oK oL hl0 hl hks b1)
  by_cases k8 : k = 8
  ·subst k8
   refine one _ rfl (by rw [nodeL, if_neg (by decide), if_pos (by decide)]) ?_
   cases acc with
   | nil => exact es (nodes1_k8_0 oK oL hl0 hl b1)
   | cons a' zs => rw [<- snoc]; exact es (nodes1_k8_1 (acc := intR (a' :: zs)) oK oL hl0 hl hks b1)
  ·have e : nodeL n k nd = [] := by rw [nodeL, if_neg k6, if_neg (by simp [k2, k4, k5, k7, k8])]
   rw [e, if_neg (by simp)]
   exact es (nodes1_o oK oL hl0 hl (by simpa using k6) (by simpa using k2) (by simpa using k4) (by simpa using k5) (by simpa using k7) (by simpa using k8))
theorem nodesB_len {n : Nt} (hf : n.flows.length <= 1000) : ∀ b : Blk, ((nodesB n b).length : Int) <= 1001 * sizeB b
 | .mk k nd a ks ls => by
  have h1 := nodeL_len hf k nd
  have h2 := go ks
  rw [nodesB, sizeB, List.length_append]
  omega
where
 go : ∀ bs : List Blk, ((nodesB.go n bs).length : Int) <= 1001 * sizeB.go bs
 | [] => by rw [nodesB.go, sizeB.go]; simp
 | b :: bs => by
  have h1 := nodesB_len hf b
  have h2 := go bs
  rw [nodesB.go, sizeB.go, List.length_append]
  omega
theorem cap_two {l l0 m : Nat} (h0 : l0 < m) (h : l < m) : ([l0, l].all fun l => decide (l < m + 1)) = true := by
 simp; omega
theorem eachN_ev {n : Nt} {N F : D} (h : IsN n N F) (hsz : n.flows.length <= 1000) {l l0 : Nat} (hne : l ≠ l0) : ∀ (b : Blk) {k nd a : Int} {K L : D} {bx : List Box} {acc : List Int}, IsB b k nd a K L -> (acc.length : Int) + 1001 * sizeB b <= 1000000000 →
  bx[l0]? = some [.dat N, .dat F] -> bx[l]? = some [mkS 1 (intR acc)] →
  ev cfg (.call 30 [.agg [I k, I nd, I a, .dat K, .dat L], .clo 38 [l0, l]] bx) = some (.ret (.tup []) (if (!(nodesB n b).isEmpty) = true then some ⟨bx.set l [mkS 1 (intR (acc ++ nodesB n b))], l, false⟩ else none))
 | .mk _ _ _ ks ls, k, nd, a, K, L, bx, acc, hB, hs, b0, b1 => by
  rw [IsB] at hB
  obtain ⟨rfl, rfl, rfl, _, _, _, rows, hK, hks, hmax, hL, _, _⟩ := hB
  have oK : K.oneC = true := by obtain ⟨_, _, _, h3⟩ := hK; exact h3
  have oL : L.oneC = true := by obtain ⟨_, _, _, h3⟩ := hL; exact h3
  have hl0 : l0 < bx.length := (gsi.1 b0).1
  have hl : l < bx.length := (gsi.1 b1).1
  rw [sizeB] at hs
  have hp := sizeB_pos.go ks
  have hnl := nodeL_len hsz k nd
  have := eachc_f (u := [mkS 1 (intR (acc ++ nodeL n k nd))]) (u2 := [mkS 1 (intR (acc ++ nodesB n (.mk k nd a ks ls)))]) (k := k) (n := nd) (a := a) (bx := bx) (!(nodeL n k nd).isEmpty) (!(nodesB n (.mk k nd a ks ls)).isEmpty) (cap_two hl0 hl) hK hL hl (g := 38)
   (fun r => by
    have h1 := nodes1_ev h hsz (k := k) (nd := nd) (a := a) oK oL (bx := bx ++ [r]) (l := l) (l0 := l0) (acc := acc) (by omega) (by rw [get_old hl0]; exact b0) (by rw [get_old hl]; exact b1)
    rw [set_old hl] at h1
    exact h1)
   (fun c hc => by
    have h1 := loop ks (bx := upd bx l acc (nodeL n k nd)) (acc := acc ++ nodeL n k nd) (i := 0) (c := c) hK rfl hks (by rw [isBs_len hks]; exact hmax) (by rw [List.length_append]; push_cast; omega) (upd_ne hne b0 _ _) (upd_get b1 _) (by rw [upd_len]; exact hc) (updL none l (nodeL n k nd)) (by unfold updL; split <;> simp)
    rw [upd_len, upd_upd, updL_updL] at h1
    rw [nodesB]
    exact h1)
  exact es this
where
 loop : ∀ (bs : List Blk) {rows rs : List (List D)} {K : D} {acc : List Int} {i : Nat} {bx : List Box} {c : Box}, IsS 5 rows K -> rows.drop i = rs -> IsB.IsBs bs rs -> rows.length < 9223372036854775808 -> (acc.length : Int) + 1001 * sizeB.go bs <= 1000000000 →
  bx[l0]? = some [.dat N, .dat F] -> bx[l]? = some [mkS 1 (intR acc)] -> c.all (cellLt (bx.length + 1)) = true -> ∀ lo : Option Nat, lo = none ∨ lo = some l →
  ev cfg (.loop 30 3 ⟨(sh30_3 (.clo 38 [l0, l]) (.dat K) (I rows.length) (I i)), bx ++ [c], bx.length, lo, false⟩) = some (.loop (.exit 0) ⟨(se30_3), upd bx l acc (nodesB.go n bs) ++ [c], bx.length, updL lo l (nodesB.go n bs), false⟩)
 | [], rows, rs, K, acc, i, bx, c, hK, hr, hbs, hmax, hs, b0, b1, hc, lo, hlo => by
  have hl0 : l0 < bx.length := (gsi.1 b0).1
  have hl : l < bx.length := (gsi.1 b1).1
  rw [IsB.IsBs] at hbs
  subst hbs
  rw [nodesB.go]
  obtain ⟨_, _, _, h3⟩ := hK
  exact es (eachc_end (cap_two hl0 hl) hc (drop_nil hr) lo h3)
 | b :: bs, rows, rs, K, acc, i, bx, c, hK, hr, hbs, hmax, hs, b0, b1, hc, lo, hlo => by
  have hl0 : l0 < bx.length := (gsi.1 b0).1
  have hl : l < bx.length := (gsi.1 b1).1
  rw [IsB.IsBs] at hbs
  obtain ⟨k, nd, a, K', L', rest, rfl, hB, hrest⟩ := hbs
  obtain ⟨hget, hr', hlt⟩ := drop_cons hr
  rw [sizeB.go] at hs
  have hp := sizeB_pos.go bs
  have hp2 := sizeB_pos b
  have hbl := nodesB_len hsz b
  have h1 := eachc_round (g := 38) (cap := [l0, l]) (u := [mkS 1 (intR (acc ++ nodesB n b))]) (cap_two hl0 hl) hK hl hc hget hlt hmax (isB_one hB).1 (isB_one hB).2 lo hlo (!(nodesB n b).isEmpty) (fun r => by
   have h2 := eachN_ev h hsz hne b (bx := bx ++ [c, r]) (acc := acc) hB (by omega) (by rw [get_old hl0]; exact b0) (by rw [get_old hl]; exact b1)
   rw [set_old hl] at h2
   exact h2)
  have h2 := loop bs (bx := upd bx l acc (nodesB n b)) (acc := acc ++ nodesB n b) (i := i + 1) (c := c) hK hr' hrest hmax (by rw [List.length_append]; push_cast; omega) (upd_ne hne b0 _ _) (upd_get b1 _) (by rw [upd_len]; exact hc) (updL lo l (nodesB n b)) (by unfold updL; split; exact .inr rfl; exact hlo)
  rw [upd_len, upd_upd, updL_updL] at h2
  rw [nodesB.go]
  exact es (h1.trans h2)
theorem intRows_intR : ∀ zs : List Int, intRows (intR zs) = some zs
 | [] => rfl
 | z :: zs => by
  have : intR (z :: zs) = [dI z] :: intR zs := rfl
  rw [this, intRows, intRow, seqO_some, intRows_intR zs]; rfl
theorem nodes_ev {n : Nt} {N F : D} (h : IsN n N F) (hsz : n.flows.length <= 1000) (b : Blk) {k nd a : Int} {K L : D} (hB : IsB b k nd a K L) (hz : sizeB b <= 1000) (bx : List Box) :
  ev cfg (.call 20 [.agg [.dat N, .dat F], .agg [I k, I nd, I a, .dat K, .dat L]] bx) = some (.ret (mkS 1 (intR (sortI (nodesB n b)))) none) := by
 obtain ⟨oN, oF⟩ := isN_one h
 obtain ⟨oK, oL⟩ := isB_one hB
 have he := eachN_ev h hsz (l := bx.length + 2) (l0 := bx.length) (by omega) b (bx := bx ++ [[.dat N, .dat F], [I k, I nd, I a, .dat K, .dat L], [.dat .nil]]) (acc := []) hB (by simp; omega) (by rw [app_get0]; rfl) (by rw [app_get]; rfl)
 have hlen := nodesB_len hsz b
 cases hnb : nodesB n b with
 | nil =>
  rw [hnb] at he
  rw [show sortI ([] : List Int) = [] by simp [sortI]]
  exact es (nodes_f0 oK oL oF oN he)
 | cons z zs =>
  rw [hnb, if_pos (by simp)] at he
  rw [app_set] at he
  rw [hnb] at hlen
  have hs : ∃ y ys, sortI (z :: zs) = y :: ys := by
   have : (sortI (z :: zs)).length = (z :: zs).length := List.length_mergeSort ..
   cases hq : sortI (z :: zs) with
   | nil => rw [hq] at this; simp at this
   | cons y ys => exact ⟨y, ys, rfl⟩
  have := nodes_f1 (k := k) (n := nd) (a := a) (bx := bx) (acc := intR (z :: zs)) (zs := z :: zs) (intRows_intR _) (by omega) oK oL oF oN he
  obtain ⟨y, ys, hy⟩ := hs
  rw [hy] at this ⊢
  exact es this
theorem intHas_ev (xs : List Int) (X : D) (hX : IsS 1 (intR xs) X) (hlen : xs.length < 1000000) (x : Int) (bx : List Box) : ev cfg (.call 29 [.dat X, I x] bx) = some (.ret (B (xs.any fun y => x == y)) none) := by
 have oX : X.oneC = true := by obtain ⟨_, _, _, h⟩ := hX; exact h
 have hl : (intR xs).length = xs.length := intR_len xs
 have loop : ∀ (ys : List Int) (i : Nat), xs.drop i = ys -> ∃ q : Option Nat, q.isSome = (ys.any fun y => x == y) /\ ev cfg (.loop 44 2 (q0 bx (sh44_2 (.dat X) (I x) (I (intR xs).length) (I i)))) = some (match q with
   | some j => .loop .ret (q0 bx (se44_2 (I j)))
   | none => .loop (.exit 0) (q0 bx (se44_2 .dead))) := by
  intro ys
  induction ys with
  | nil =>
   intro i hd
   exact ⟨none, rfl, es (intIdx_stop oX (by rw [hl]; exact drop_nil hd))⟩
  | cons y ys ih =>
   intro i hd
   obtain ⟨hget, hd', hlt⟩ := drop_cons hd
   have hr := intIdx_round (bx := bx) (x := x) (y := y) (i := i) hX (by simp [intR, hget]) (by rw [hl]; exact hlt) (by rw [hl]; omega)
   rw [List.any_cons]
   by_cases hx : (x == y) = true
   ·rw [if_pos hx] at hr
    exact ⟨some i, by rw [hx]; rfl, es hr⟩
   ·rw [if_neg hx] at hr
    obtain ⟨q, h1, h2⟩ := ih (i + 1) hd'
    rw [Bool.not_eq_true] at hx
    exact ⟨q, by rw [hx, Bool.false_or]; exact h1, es (hr.trans h2)⟩
 obtain ⟨q, h1, h2⟩ := loop xs 0 rfl
 have hc := es (intHas_call oX (es (intIdx_call hX h2)))
 rw [hc]
 cases q with
 | some j =>
  have e : (xs.any fun y => x == y) = true := h1.symm
  rw [e]
  have : decide (((j : Nat) : Int) >= 0) = true := dqt (by omega)
  simp only [this]
 | none =>
  have e : (xs.any fun y => x == y) = false := h1.symm
  rw [e]; rfl
theorem kids_ev {g : FuncId} {cap : List Nat} (p : Blk -> Bool) {ks : List Blk} {rows : List (List D)} {K : D} (hK : IsS 5 rows K) (hks : IsB.IsBs ks rows) (hmax : ks.length < 9223372036854775808) {bx : List Box} (hcap : (cap.all fun l => decide (l < bx.length)) = true)
  (hcall : ∀ b ∈ ks, ∀ k n a K L, IsB b k n a K L -> ev cfg (.call g (.agg [I k, I n, I a, .dat K, .dat L] :: cap.map fun l => .ptr l 0) bx) = some (.ret (B (p b)) none)) :
  ev cfg (.call 36 [.dat K, .clo g cap] bx) = some (.ret (B (ks.any p)) none) := by
 have oK : K.oneC = true := by obtain ⟨_, _, _, h⟩ := hK; exact h
 have hlen := isBs_len hks
 have loop : ∀ (bs : List Blk) (rs : List (List D)) (i : Nat), (∀ b ∈ bs, b ∈ ks) -> rows.drop i = rs -> IsB.IsBs bs rs -> ∃ q : Option Nat, q.isSome = bs.any p /\ ev cfg (.loop 58 2 (q0 bx (sh58_2 (.dat K) (.clo g cap) (I rows.length) (I i)))) = some (match q with
   | some j => .loop .ret (q0 bx (se58_2 (I j)))
   | none => .loop (.exit 0) (q0 bx (se58_2 .dead))) := by
  intro bs
  induction bs with
  | nil =>
   intro rs i hin hd hbs
   rw [IsB.IsBs] at hbs
   subst hbs
   exact ⟨none, rfl, es (kid_end hcap oK (drop_nil hd))⟩
  | cons b bs ih =>
   intro rs i hin hd hbs
   rw [IsB.IsBs] at hbs
   obtain ⟨k, n, a, K', L', rest, rfl, hB, hrest⟩ := hbs
   obtain ⟨hget, hd', hlt⟩ := drop_cons hd
   have hr := kid_round (bx := bx) (v := p b) hcap hK hget hlt (by rw [hlen]; exact hmax) (isB_one hB).1 (isB_one hB).2 (hcall b (hin b (mcs ..)) _ _ _ _ _ hB)
   rw [List.any_cons]
   by_cases hx : p b = true
   ·rw [if_pos hx] at hr
    exact ⟨some i, by rw [hx]; rfl, es hr⟩
   ·rw [if_neg hx] at hr
    obtain ⟨q, h1, h2⟩ := ih rest (i + 1) (fun c hc => hin c (mcm _ hc)) hd' hrest
    rw [Bool.not_eq_true] at hx
    exact ⟨q, by rw [hx, Bool.false_or]; exact h1, es (hr.trans h2)⟩
 obtain ⟨q, h1, h2⟩ := loop ks rows 0 (fun _ h => h) rfl hks
 have hc := es (some_kid hcap oK (es (kid_f hcap hK h2)))
 rw [hc]
 cases q with
 | some j =>
  have e : ks.any p = true := h1.symm
  rw [e]
  have : decide (((j : Nat) : Int) >= 0) = true := dqt (by omega)
  simp only [this]
 | none =>
  have e : ks.any p = false := h1.symm
  rw [e]; rfl
def splitN (n : Nt) (q kd m : Int) : Bool := inN n q && (kindN n q == kd && (decide (m > 1) && ((outsN n q).length : Int) == m))
theorem inN_rows {n : Nt} {nr : List (List D)} (h : nr.length = n.nodes.length) (q : Int) : (decide (q >= 0) && decide (q < (nr.length : Int))) = inN n q := by rw [h]; rfl
theorem inN_nat {n : Nt} {q : Int} (h : inN n q = true) : ∃ p : Nat, q = p /\ p < n.nodes.length := by
 simp only [inN, Bool.and_eq_true, dqE] at h
 exact ⟨q.toNat, by omega, by omega⟩
theorem splits_ev {n : Nt} {N F : D} (h : IsN n N F) (hsz : n.flows.length <= 1000000) (q kd m : Int) (bx : List Box) : ev cfg (.call 56 [.agg [.dat N, .dat F], I q, I kd, I m] bx) = some (.ret (B (splitN n q kd m)) none) := by
 have hh := h
 obtain ⟨oN, oF⟩ := isN_one h
 obtain ⟨nr, fr, hN, hnr, _⟩ := h
 cases hin : inN n q with
 | false => rw [es (splits_no hN oF ((inN_rows hnr.1 q).trans hin)), splitN, hin, Bool.false_and]
 | true =>
  obtain ⟨p, rfl, hp⟩ := inN_nat hin
  obtain ⟨row, hrow, _, _, op, k, K, rfl, hT⟩ := hnr.get hp
  rw [es (splits_go hN oF hrow (mkD_is _ _) fun bx => outs_ev hh hsz p bx), splitN, hin, Bool.true_and, kind_at hp, natR_len]
def badX (nk nf : Nat) (x : Int × Int × Int) : Bool := badLk nk nf x.1 x.2.1 x.2.2
def cntW (g : Int × Int × Int -> Int) (ls : List (Int × Int × Int)) : Nat := (ls.filter fun x => decide (g x < 0)).length
def linkedW (nk nf : Nat) (ls : List (Int × Int × Int)) : Bool := !ls.any (badX nk nf) && (((cntW (·.1) ls : Nat) : Int) == 1 && (((cntW (·.2.1) ls : Nat) : Int) == 1 && decide ((ls.length : Int) <= 40)))
theorem cnt_cons (g : Int × Int × Int -> Int) (x : Int × Int × Int) (ls : List (Int × Int × Int)) : ((cntW g (x :: ls) : Nat) : Int) = (if g x < 0 then 1 else 0) + (cntW g ls : Nat) := by
 unfold cntW
 rw [List.filter_cons]
 by_cases h : g x < 0
 ·simp [h]; omega
 ·simp [h]
theorem linked_evB {n : Nt} {N F : D} (h : IsN n N F) {ks : List Blk} {ls : List (Int × Int × Int)} {rows : List (List D)} {K L : D} (hK : IsS 5 rows K) (hks : IsB.IsBs ks rows) (hL : IsS 3 (ls.map lnkD) L) (hmax : ls.length < 1000000000) (k nd a : Int) (bx : List Box) :
  ev cfg (.call 57 [.agg [.dat N, .dat F], .agg [I k, I nd, I a, .dat K, .dat L]] bx) = some (.ret (B (linkedW ks.length n.flows.length ls)) none) := by
 obtain ⟨oN, oF⟩ := isN_one h
 obtain ⟨nr, fr, hN, hnr, _, hF, hfr, _⟩ := h
 have oK : K.oneC = true := by obtain ⟨_, _, _, h⟩ := hK; exact h
 have oL : L.oneC = true := by obtain ⟨_, _, _, h⟩ := hL; exact h
 have hlen : (ls.map lnkD).length = ls.length := by simp
 have hkl := isBs_len hks
 have hfl := hfr.1
 have loop : ∀ (xs : List (Int × Int × Int)) (i : Nat) (ins outs : Int), ls.drop i = xs -> 0 <= ins -> ins <= i -> 0 <= outs -> outs <= i -> ∃ p q : Int,
   ev cfg (.loop 57 3 (qs bx (sh57_3 (.ptr bx.length 0) (.ptr (bx.length + 1) 0) (I ins) (I outs) (.dat L) (I (ls.map lnkD).length) (I i)) [[.dat N, .dat F], [I k, I nd, I a, .dat K, .dat L]])) =
    some (if xs.any (badX rows.length fr.length) = true then .loop .ret (qs bx (se57_3 (.ptr (bx.length + 1) 0) (B false) (I p) (I q)) [[.dat N, .dat F], [I k, I nd, I a, .dat K, .dat L]])
    else .loop (.exit 0) (qs bx (se57_3 (.ptr (bx.length + 1) 0) .dead (I (ins + (cntW (·.1) xs : Nat))) (I (outs + (cntW (·.2.1) xs : Nat)))) [[.dat N, .dat F], [I k, I nd, I a, .dat K, .dat L]])) := by
  intro xs
  induction xs with
  | nil =>
   intro i ins outs hd h1 h2 h3 h4
   refine ⟨0, 0, ?_⟩
   rw [if_neg (by simp)]
   have := es (blink_end (bx := bx) (k := k) (n := nd) (a := a) (ins := ins) (outs := outs) oN oF oK oL (m := (ls.map lnkD).length) (i := i) (by rw [hlen]; exact drop_nil hd))
   rw [this]
   simp [cntW]
  | cons x xs ih =>
   intro i ins outs hd h1 h2 h3 h4
   obtain ⟨hget, hd', hlt⟩ := drop_cons hd
   have hg : (ls.map lnkD)[i]? = some [dI x.1, dI x.2.1, dI x.2.2] := by simp [hget, lnkD]
   rw [List.any_cons]
   cases hb : badX rows.length fr.length x with
   | true =>
    refine ⟨ins, outs, ?_⟩
    rw [Bool.true_or, if_pos rfl]
    exact es (blink_bad oN hF hK hL hg (by rw [hlen]; exact hlt) hb)
   | false =>
    have hb' : badLk rows.length fr.length x.1 x.2.1 x.2.2 = false := hb
    simp only [badLk, Bool.or_eq_false_iff] at hb'
    obtain ⟨e1, e2, e3, e4, e5, e6⟩ := hb'
    obtain ⟨p, q, hpq⟩ := ih (i + 1) (if x.1 < 0 then ins + 1 else ins) (if x.2.1 < 0 then outs + 1 else outs) hd' (by split <;> omega) (by split <;> omega) (by split <;> omega) (by split <;> omega)
    refine ⟨p, q, ?_⟩
    rw [Bool.false_or]
    have hr := blink_ok (bx := bx) (k := k) (n := nd) (a := a) (ins := ins) (outs := outs) oN hF hK hL hg (by rw [hlen]; exact hlt) (by rw [hlen]; omega) e1 e2 e3 e4 e5 e6 (wrap_lo (by omega) (by omega)) (wrap_lo (by omega) (by omega))
    refine (es (hr.trans hpq)).trans ?_
    have c1 : (if x.1 < 0 then ins + 1 else ins) + ((cntW (·.1) xs : Nat) : Int) = ins + ((cntW (·.1) (x :: xs) : Nat) : Int) := by rw [cnt_cons]; split <;> omega
    have c2 : (if x.2.1 < 0 then outs + 1 else outs) + ((cntW (·.2.1) xs : Nat) : Int) = outs + ((cntW (·.2.1) (x :: xs) : Nat) : Int) := by rw [cnt_cons]; split <;> omega
    rw [c1, c2]
 obtain ⟨p, q, hpq⟩ := loop ls 0 0 0 rfl (by omega) (by omega) (by omega) (by omega)
 rw [hkl, hfl] at hpq
 unfold linkedW
 cases hb : ls.any (badX ks.length n.flows.length) with
 | true =>
  rw [hb, if_pos rfl] at hpq
  rw [es (blink_fno oN oF oK hL hpq)]; rfl
 | false =>
  rw [hb, if_neg (by decide), Int.zero_add, Int.zero_add] at hpq
  rw [es (blink_f oN oF oK hL hpq), hlen]; rfl
def headBad (k a : Int) (nl : Nat) : Bool := ((a != 0) && ((k != 7) || (a != 1))) || (decide ((nl : Int) > 0) && (k != 9))
def kB : Blk -> Int
 | .mk k _ _ _ _ => k
def rightB (n : Nt) (k nd a : Int) (ks : List Blk) (ls : List (Int × Int × Int)) : Bool :=
 if headBad k a ls.length = true then false
 else if k = 1 ∨ k = 10 then nd == 0 && (ks.length : Int) == 0
 else if k = 2 then inN n nd && ((ks.length : Int) == 0 && [3, 4, 8].any fun y => kindN n nd == y)
 else if k = 8 then inN n nd && ((ks.length : Int) == 0 && [5, 6, 7].any fun y => kindN n nd == y)
 else if k = 3 then nd == 0 && (decide ((ks.length : Int) > 1) && !(ks.any fun b => kB b == 3))
 else if k = 4 then splitN n nd 6 ks.length
 else if k = 5 then splitN n nd 5 ks.length
 else if k = 6 then splitN n nd 7 ks.length
 else if k = 7 then (ks.length : Int) == 2 && splitN n nd 5 ks.length
 else if k = 9 then nd == 0 && (decide ((ks.length : Int) > 0) && linkedW ks.length n.flows.length ls)
 else false
theorem right_ev3 {n : Nt} {N F : D} (h : IsN n N F) (hsz : n.flows.length <= 1000) {k nd a : Int} {ks : List Blk} {ls : List (Int × Int × Int)} {K L : D} (hB : IsB (.mk k nd a ks ls) k nd a K L) (hlm : ls.length < 1000000000) (bx : List Box) :
  ev cfg (.call 35 [.agg [.dat N, .dat F], .agg [I k, I nd, I a, .dat K, .dat L]] bx) = some (.ret (B (rightB n k nd a ks ls)) none) := by
 have hh := h
 obtain ⟨oN, oF⟩ := isN_one h
 obtain ⟨nr, fr, hN, hnr, _, hF, hfr, _⟩ := h
 rw [IsB] at hB
 obtain ⟨_, _, _, _, _, _, rows, hK, hks, hmax, hL, _, _⟩ := hB
 have hkl := isBs_len hks
 have hll : (ls.map lnkD).length = ls.length := by simp
 rw [rightB]
 cases hb : headBad k a ls.length with
 | true =>
  rw [if_pos rfl]
  refine es (bright_no hN oF hK hL ?_)
  rw [hll]; exact hb
 | false =>
  rw [if_neg (by decide)]
  have hb' := hb
  simp only [headBad, Bool.or_eq_false_iff, Bool.and_eq_false_iff] at hb'
  obtain ⟨hb1, hb2⟩ := hb'
  have ha0 : k ≠ 7 -> a = 0 := fun h7 => by
   rcases hb1 with h | h
   ·simpa using h
   ·exact absurd (by simpa using h.1) h7
  have hl0 : k ≠ 9 -> decide (((ls.map lnkD).length : Int) > 0) = false := fun h9 => by
   have : (k != 9) = true := by simpa using h9
   rw [this] at hb2
   rw [hll]
   simpa using hb2
  by_cases k1 : k = 1
  ·subst k1
   obtain rfl := ha0 (by decide)
   rw [if_pos (.inl rfl), <- hkl]
   exact es (bright_1 hN oF hK hL (hl0 (by decide)))
  by_cases k10 : k = 10
  ·subst k10
   obtain rfl := ha0 (by decide)
   rw [if_pos (.inr rfl), <- hkl]
   exact es (bright_10 hN oF hK hL (hl0 (by decide)))
  rw [if_neg (by simp [k1, k10])]
  by_cases k2 : k = 2
  ·subst k2
   obtain rfl := ha0 (by decide)
   rw [if_pos rfl]
   cases hin : inN n nd with
   | false => rw [Bool.false_and]; exact es (bright_2no hN oF hK hL (hl0 (by decide)) ((inN_rows hnr.1 nd).trans hin))
   | true =>
    obtain ⟨p, rfl, hp⟩ := inN_nat hin
    obtain ⟨row, hrow, _, _, op, m, K2, rfl, hT⟩ := hnr.get hp
    rw [Bool.true_and, kind_at hp, <- hkl]
    exact es (bright_2go hN oF hK hL (hl0 (by decide)) hrow fun bx => intHas_ev [3, 4, 8] _ (isS_sl 1 _) (by decide) _ bx)
  rw [if_neg k2]
  by_cases k8 : k = 8
  ·subst k8
   obtain rfl := ha0 (by decide)
   rw [if_pos rfl]
   cases hin : inN n nd with
   | false => rw [Bool.false_and]; exact es (bright_8no hN oF hK hL (hl0 (by decide)) ((inN_rows hnr.1 nd).trans hin))
   | true =>
    obtain ⟨p, rfl, hp⟩ := inN_nat hin
    obtain ⟨row, hrow, _, _, op, m, K2, rfl, hT⟩ := hnr.get hp
    rw [Bool.true_and, kind_at hp, <- hkl]
    exact es (bright_8go hN oF hK hL (hl0 (by decide)) hrow fun bx => intHas_ev [5, 6, 7] _ (isS_sl 1 _) (by decide) _ bx)
  rw [if_neg k8]
  by_cases k3 : k = 3
  ·subst k3
   obtain rfl := ha0 (by decide)
   rw [if_pos rfl, <- hkl]
   refine es (bright_3 hN oF hK hL (hl0 (by decide)) fun bx => kids_ev (fun b => kB b == 3) hK hks hmax rfl fun b _ k' n' a' K' L' hB' => ?_)
   have e : k' = kB b := by cases b; rw [IsB] at hB'; exact hB'.1
   subst e
   exact es (right1_f (isB_one hB').1 (isB_one hB').2)
  rw [if_neg k3]
  by_cases k4 : k = 4
  ·subst k4
   obtain rfl := ha0 (by decide)
   rw [if_pos rfl, <- hkl]
   exact es (bright_4 hN oF hK hL (hl0 (by decide)) fun bx => splits_ev hh (by omega) nd 6 _ bx)
  rw [if_neg k4]
  by_cases k5 : k = 5
  ·subst k5
   obtain rfl := ha0 (by decide)
   rw [if_pos rfl, <- hkl]
   exact es (bright_5 hN oF hK hL (hl0 (by decide)) fun bx => splits_ev hh (by omega) nd 5 _ bx)
  rw [if_neg k5]
  by_cases k6 : k = 6
  ·subst k6
   obtain rfl := ha0 (by decide)
   rw [if_pos rfl, <- hkl]
   exact es (bright_6 hN oF hK hL (hl0 (by decide)) fun bx => splits_ev hh (by omega) nd 7 _ bx)
  rw [if_neg k6]
  by_cases k7 : k = 7
  ·subst k7
   rw [if_pos rfl, <- hkl]
   refine es (bright_7 hN oF hK hL (hl0 (by decide)) ?_ fun bx => splits_ev hh (by omega) nd 5 _ bx)
   rcases hb1 with h1 | h1
   ·rw [h1]; rfl
   ·rw [h1.2, Bool.and_false]
  rw [if_neg k7]
  by_cases k9 : k = 9
  ·subst k9
   obtain rfl := ha0 (by decide)
   rw [if_pos rfl]
   have := es (bright_9 (n := nd) (bx := bx) (fun bx => linked_evB hh hK hks hL hlm 9 nd 0 bx) hN oF hK hL)
   rw [this, hkl]
  rw [if_neg k9]
  obtain rfl := ha0 k7
  exact es (bright_o hN oF hK hL (hl0 k9) (by simpa using k1) (by simpa using k10) (by simpa using k2) (by simpa using k8) (by simpa using k3) (by simpa using k4) (by simpa using k5) (by simpa using k6) (by simpa using k7) (by simpa using k9))
theorem routs_ev {n : Nt} {N F : D} (h : IsN n N F) (hsz : n.flows.length <= 1000000) (q : Int) (bx : List Box) : ev cfg (.call 32 [.agg [.dat N, .dat F], I q] bx) = some (.ret (.dat (mkD 1 (natR (outsN n q)))) none) := by
 obtain ⟨oN, oF⟩ := isN_one h
 obtain ⟨nr, fr, hN, _, _, hF, hfr, hmax⟩ := h
 have hlen : fr.length = n.flows.length := hfr.1
 have loop : ∀ (fs : List Fl) (i : Nat) (acc : List Nat), n.flows.drop i = fs -> acc.length <= i -> ∀ c : Box, c.all (cellLt (bx.length + 1)) = true →
   ev cfg (.loop 32 3 (qs bx (sh32_3 (I q) (mkS 1 (natR acc)) (.dat F) (I fr.length) (I i)) [c])) = some (.loop (.exit 0) (qs bx (se32_3 (mkS 1 (natR (acc ++ idxs (fun f => f.fr == q) i fs)))) [c])) := by
  intro fs
  induction fs with
  | nil =>
   intro i acc hd ha c hc
   rw [idxs, List.append_nil]
   exact es (routs_end oF hc (by rw [hlen]; exact drop_nil hd))
  | cons f fs ih =>
   intro i acc hd ha c hc
   obtain ⟨hget, hd', hlt⟩ := drop_cons hd
   obtain ⟨row, hrow, _, _, op, m, K, rfl, hT⟩ := hfr.2 i f hget
   have hks : ((natR acc).length + 1) * 8 <= 140737488355328 := by rw [natR_len]; omega
   have e : acc ++ idxs (fun f => f.fr == q) i (f :: fs) = (if (f.fr == q) = true then acc ++ [i] else acc) ++ idxs (fun f => f.fr == q) (i + 1) fs := by
    rw [idxs]
    split <;> simp
   rw [e]
   have hacc : (if (f.fr == q) = true then acc ++ [i] else acc).length <= i + 1 := by split <;> (try simp) <;> omega
   have := ih (i + 1) (if (f.fr == q) = true then acc ++ [i] else acc) hd' hacc c hc
   refine es (Eq.trans ?_ this)
   cases acc with
   | nil =>
    refine (routs_round0 hF hc hrow (by rw [hlen]; exact hlt) (by rw [hlen]; exact hmax) (isT_one hT)).trans ?_
    cases (f.fr == q) <;> rfl
   | cons a acc =>
    refine (routs_round1 (rs := natR (a :: acc)) hF hc hrow (by rw [hlen]; exact hlt) (by rw [hlen]; exact hmax) (isT_one hT) hks).trans ?_
    cases (f.fr == q)
    ·rfl
    ·simp only [if_true, natR_app]; rfl
 refine es (routs_f oN hF fun c hc => ?_)
 have := loop n.flows 0 [] rfl (Nat.le_refl _) c hc
 rw [List.nil_append] at this
 exact this
end Go.Proofs.YtifckjhggamefaaDoor
