/- What the law's 'large' answers: by the lists. No condition. -/
import Derived.Test.YtifckjhggamefaaDoorGk
import Derived.Laws.Strings
import Derived.Test.YtifckjhggamefaaDoorGd
set_option linter.unusedSimpArgs false
set_option linter.unusedVariables false
set_option linter.unusedSectionVars false
namespace Go.Proofs.YtifckjhggamefaaDoor
open Go Go.Vx
set_option maxRecDepth 10000
set_option maxHeartbeats 1000000
theorem lgs_app : ∀ (xs ys : List Trm) (m d : Int), lgT.lgs m d (xs ++ ys) = if (lgT.lgs m d xs).1 = true then lgT.lgs m d xs else lgT.lgs (lgT.lgs m d xs).2 d ys
 | [], ys, m, d => by rw [List.nil_append, lgT.lgs, if_neg (by simp)]
 | x :: xs, ys, m, d => by
  rw [List.cons_append, lgT.lgs, lgT.lgs]
  by_cases h : (lgT m d x).1 = true
  ·rw [if_pos h, if_pos h, if_pos rfl]
  ·rw [if_neg h, if_neg h, lgs_app xs ys]
theorem nlarge_ev {n : Nt} {N F : D} (h : IsN n N F) (bx : List Box) : ev cfg (.call 5 [.agg [.dat N, .dat F]] bx) = some (.ret (B (largeN n)) none) := by
 obtain ⟨o1, o2⟩ := isN_one h
 obtain ⟨nr, fr, hN, hnr, hmax, hF, hfr, hmax2⟩ := h
 have hlen : nr.length = n.nodes.length := hnr.1
 have hflen : fr.length = n.flows.length := hfr.1
 by_cases hb : (decide ((nr.length : Int) > 30) || decide ((fr.length : Int) > 50)) = true
 ·rw [es (large_big hN hF hb), largeN, <- hlen, <- hflen, <- Bool.or_assoc, hb, Bool.true_or]
 have hb' := hb
 simp only [Bool.not_eq_true, Bool.or_eq_false_iff] at hb'
 obtain ⟨c1, c2⟩ := hb'
 have deep1 : ∀ (t : Trm) {op k : Int} {K : D} {m : Int}, IsT t op k K -> -1 <= m -> m <= 1000000 -> ∀ c : Box, ev cfg (.call 16 [.agg [I op, I k, .dat K], .ptr (bx.length + 1) 0, I 1] (bx ++ [[.dat N, .dat F], [I m], c])) = some (.ret (B (lgT m 1 t).1) (some ⟨bx ++ [[.dat N, .dat F], [I (lgT m 1 t).2], c], bx.length + 1, false⟩)) := fun t op k K m hT h1 h2 c => by
  have := ldeep_ev t (bx := bx ++ [[.dat N, .dat F], [I m], c]) (l := bx.length + 1) (d := 1) hT h1 h2 (by omega) (by omega) (by simp)
  rw [this]
  simp
 have loop1 : ∀ (xs : List Nd) (i : Nat) (m : Int), n.nodes.drop i = xs -> -1 <= m -> m <= 1000000 -> ev cfg (.loop 5 5 (qs bx (sh5_5 (.ptr bx.length 0) (.ptr (bx.length + 1) 0) (.dat N) (I nr.length) (I i)) [[.dat N, .dat F], [I m]])) =
   some (if (lgT.lgs m 1 (xs.map (·.t))).1 = true then .loop .ret (qs bx (se5_5 (.ptr bx.length 0) (B true) (.ptr (bx.length + 1) 0)) [[.dat N, .dat F], [I (lgT.lgs m 1 (xs.map (·.t))).2]]) else .loop (.exit 0) (qs bx (se5_5 (.ptr bx.length 0) .dead (.ptr (bx.length + 1) 0)) [[.dat N, .dat F], [I (lgT.lgs m 1 (xs.map (·.t))).2]])) := by
  intro xs
  induction xs with
  | nil =>
   intro i m hd h1 h2
   rw [List.map_nil, lgT.lgs, if_neg (by simp)]
   exact es (large_e1 o1 o2 (by rw [hlen]; exact drop_nil hd))
  | cons x xs ih =>
   intro i m hd h1 h2
   obtain ⟨hget, hd', hlt⟩ := drop_cons hd
   obtain ⟨row, hrow, _, _, op, k, K, rfl, hT⟩ := hnr.2 i x hget
   have hr := large_r1 (res := lgT m 1 x.t) hN o2 hrow (by rw [hlen]; exact hlt) (by rw [hlen]; exact hmax) (isT_one hT) (deep1 x.t hT h1 h2)
   rw [List.map_cons, lgT.lgs]
   by_cases hc : (lgT m 1 x.t).1 = true
   ·rw [if_pos hc] at hr
    rw [if_pos hc, if_pos rfl]
    exact es hr
   ·rw [if_neg hc] at hr
    rw [if_neg hc]
    have := lgT_ge x.t m 1
    exact es (hr.trans (ih (i + 1) _ hd' (lgT_lo x.t m 1 hc) (by omega)))
 have loop2 : ∀ (xs : List Fl) (i : Nat) (m : Int), n.flows.drop i = xs -> -1 <= m -> m <= 1000000 -> ev cfg (.loop 5 11 (qs bx (sh5_11 (.ptr (bx.length + 1) 0) (.dat F) (I fr.length) (I i)) [[.dat N, .dat F], [I m]])) =
   some (if (lgT.lgs m 1 (xs.map (·.c))).1 = true then .loop .ret (qs bx (se5_11 (B true)) [[.dat N, .dat F], [I (lgT.lgs m 1 (xs.map (·.c))).2]]) else .loop (.exit 2) (qs bx (se5_11 .dead) [[.dat N, .dat F], [I (lgT.lgs m 1 (xs.map (·.c))).2]])) := by
  intro xs
  induction xs with
  | nil =>
   intro i m hd h1 h2
   rw [List.map_nil, lgT.lgs, if_neg (by simp)]
   exact es (large_e2 o1 o2 (by rw [hflen]; exact drop_nil hd))
  | cons x xs ih =>
   intro i m hd h1 h2
   obtain ⟨hget, hd', hlt⟩ := drop_cons hd
   obtain ⟨row, hrow, _, _, op, k, K, rfl, hT⟩ := hfr.2 i x hget
   have hr := large_r2 (res := lgT m 1 x.c) o1 hF hrow (by rw [hflen]; exact hlt) (by rw [hflen]; exact hmax2) (isT_one hT) (deep1 x.c hT h1 h2)
   rw [List.map_cons, lgT.lgs]
   by_cases hc : (lgT m 1 x.c).1 = true
   ·rw [if_pos hc] at hr
    rw [if_pos hc, if_pos rfl]
    exact es hr
   ·rw [if_neg hc] at hr
    rw [if_neg hc]
    have := lgT_ge x.c m 1
    exact es (hr.trans (ih (i + 1) _ hd' (lgT_lo x.c m 1 hc) (by omega)))
 have hl1 := loop1 n.nodes 0 2000 rfl (by omega) (by omega)
 have hl2 : (lgT.lgs 2000 1 (n.nodes.map (·.t))).1 = false -> _ := fun e => loop2 n.flows 0 (lgT.lgs 2000 1 (n.nodes.map (·.t))).2 rfl (lgT_lo.go _ 2000 1 (by omega) (by rw [e]; decide)) (by have := lgT_ge.go (n.nodes.map (·.t)) 2000 1; omega)
 rw [es (large_f hN hF c1 c2 hl1 hl2), largeN, <- hlen, <- hflen, c1, c2, Bool.false_or, Bool.false_or, lgL, termsN, lgs_app]
 congr 3
 split
 ·rename_i hc; rw [hc]; rfl
 ·rename_i hc
  rw [Bool.not_eq_true] at hc
  rw [hc, Bool.false_or]
theorem boolR_get {bs : List Bool} {i : Nat} {b : Bool} (h : bs[i]? = some b) : (boolR bs)[i]? = some [.lit (.bool b)] := by simp [boolR, h]
theorem boolR_set (bs : List Bool) (i : Nat) (b : Bool) : (boolR bs).set i [.lit (.bool b)] = boolR (bs.set i b) := by simp [boolR, List.map_set]
theorem boolR_rep (m : Nat) : List.replicate m [D.lit (.bool false)] = boolR (List.replicate m false) := by simp [boolR]
theorem intR_app (xs ys : List Int) : intR (xs ++ ys) = intR xs ++ intR ys := by simp [intR]
theorem intR_len (xs : List Int) : (intR xs).length = xs.length := by simp [intR]
theorem met_ev {n : Nt} {N F : D} (h : IsN n N F) (hfl : n.flows.length <= 1000) (hnd : n.nodes.length <= 1000) (hE : Ends n) (back : Bool) {a : Int} (ha : 0 <= a /\ a < n.nodes.length) :
  ∃ seen : List Bool, seen.length = n.nodes.length /\ (∀ i : Nat, seen[i]? = some true ↔ Rch (EdgeB n back) a i) /\ ∀ bx : List Box, ev cfg (.call 51 [.agg [.dat N, .dat F], I a, B back] bx) = some (.ret (.dat (.sl 1 (boolR seen))) none) := by
 obtain ⟨o1, o2⟩ := isN_one h
 obtain ⟨nr, fr, hN, hnr, _, hF, hfr, _⟩ := h
 have hlen : nr.length = n.nodes.length := hnr.1
 have hflen : fr.length = n.flows.length := hfr.1
 have inner : ∀ (bx : List Box) (sr : List (List D)) (q : Nat) (fs : List Fl) (i : Nat) (todo : List Int), n.flows.drop i = fs -> todo.length + fs.length <= 10000000 →
   ev cfg (.loop 51 9 (qs bx (sh51_9 (B back) (.ptr bx.length 0) (.own true 1 sr) (.own true 1 (intR todo)) (I q) (.dat F) (I fr.length) (I i)) [[.dat N, .dat F]])) =
   some (.loop (.exit 2) (qs bx (se51_9 (B back) (.ptr bx.length 0) (.own true 1 sr) (.own true 1 (intR (todo ++ fs.filterMap (nextF back q))))) [[.dat N, .dat F]])) := by
  intro bx sr q fs
  have hc : ([.dat N, .dat F] : Box).all (cellLt (bx.length + 1)) = true := by simp [cellLt]
  induction fs with
  | nil =>
   intro i todo hd _
   rw [List.filterMap_nil, List.append_nil]
   exact es (met_ine o2 hc (by rw [hflen]; exact drop_nil hd))
  | cons f fs ih =>
   intro i todo hd hsz
   obtain ⟨hget, hd', hlt⟩ := drop_cons hd
   obtain ⟨row, hrow, _, _, op, m, K, rfl, hT⟩ := hfr.2 i f hget
   have hr := met_in (bx := bx) (c := [.dat N, .dat F]) (q := q) (back := back) (sr := sr) (tr := intR todo) hF hc hrow (isT_one hT) (by rw [hflen]; exact hlt) (by rw [hflen]; omega) (by rw [intR_len]; simp at hsz; omega)
   have e1 : (if back = true then (if (f.to == (q : Int)) = true then intR todo ++ [[dI f.fr]] else intR todo) else if (f.fr == (q : Int)) = true then intR todo ++ [[dI f.to]] else intR todo) = intR (todo ++ (nextF back q f).toList) := by
    simp only [nextF, beq_iff_eq]
    split <;> split <;> simp [intR_app, intR]
   have e2 : todo ++ (f :: fs).filterMap (nextF back q) = (todo ++ (nextF back q f).toList) ++ fs.filterMap (nextF back q) := by
    rw [List.filterMap_cons]
    cases nextF back q f <;> simp
   rw [e1] at hr
   rw [e2]
   refine es (hr.trans (ih (i + 1) _ hd' ?_))
   have : (nextF back q f).toList.length <= 1 := by cases nextF back q f <;> simp
   simp at hsz ⊢
   omega
 have outer : ∀ (m : Nat) (todo : List Int) (seen : List Bool), MetInv n back a todo seen -> unseen seen * (n.flows.length + 1) + todo.length <= m -> m <= 5000000 →
   ∃ fin : List Bool, fin.length = n.nodes.length /\ (∀ i : Nat, fin[i]? = some true ↔ Rch (EdgeB n back) a i) /\ ∀ bx : List Box,
    ev cfg (.loop 51 3 (qs bx (sh51_3 (B back) (.ptr bx.length 0) (.own true 1 (boolR seen)) (.own true 1 (intR todo))) [[.dat N, .dat F]])) =
    some (.loop (.exit 0) (qs bx (se51_3 (.own true 1 (boolR fin))) [[.dat N, .dat F]])) := by
  intro m
  induction m with
  | zero =>
   intro todo seen hi hm _
   have : todo = [] := List.length_eq_zero_iff.1 (by omega)
   subst this
   exact ⟨seen, hi.len, hi.done hE ha.1, fun bx => es (met_end o1 o2)⟩
  | succ m ih =>
   intro todo seen hi hm hle
   cases todo with
   | nil => exact ⟨seen, hi.len, hi.done hE ha.1, fun bx => es (met_end o1 o2)⟩
   | cons t todo =>
    have ht := hi.rng t mcs
    obtain ⟨q, rfl⟩ : ∃ q : Nat, t = q := ⟨t.toNat, by omega⟩
    have hq : q < seen.length := by rw [hi.len]; omega
    have hqq : ((q : Int)).toNat = q := by omega
    cases hs : seen[q] with
    | true =>
     have hs' : seen[q]? = some true := by rw [gge hq, hs]
     obtain ⟨fin, w1, w2, w3⟩ := ih todo seen (hi.skip (by rw [hqq]; exact hs')) (by simp at hm; omega) (by omega)
     exact ⟨fin, w1, w2, fun bx => es ((met_skip (tr := intR todo) o1 o2 (boolR_get hs')).trans (w3 bx))⟩
    | false =>
     have hs' : seen[q]? = some false := by rw [gge hq, hs]
     have hv := hi.visit hE
     rw [hqq] at hv
     have hu := unseen_set _ _ hs'
     have hnx : (n.flows.filterMap (nextF back q)).length <= n.flows.length := List.length_filterMap_le _ _
     have hmul : unseen seen * (n.flows.length + 1) = unseen (seen.set q true) * (n.flows.length + 1) + (n.flows.length + 1) := by rw [<- hu, Nat.add_mul, Nat.one_mul]
     obtain ⟨fin, w1, w2, w3⟩ := ih _ _ hv (by simp at hm ⊢; omega) (by omega)
     refine ⟨fin, w1, w2, fun bx => es ((met_visit (tr := intR todo) (fin := intR (todo ++ n.flows.filterMap (nextF back q))) o1 hF (boolR_get hs') ?_).trans ?_)⟩
     ·exact inner bx _ q n.flows 0 todo rfl (by simp at hm; omega)
     ·rw [boolR_set]; exact w3 bx
 have hinit : MetInv n back a [a] (List.replicate n.nodes.length false) := by
  refine ⟨by simp, fun t ht => by rw [List.mem_singleton] at ht; subst ht; exact ha, fun i hi => ?_, fun t ht => by rw [List.mem_singleton] at ht; subst ht; exact .refl, fun i hi => ?_, .inl (List.mem_singleton.2 rfl)⟩
  ·rw [List.getElem?_replicate] at hi; split at hi <;> simp at hi
  ·rw [List.getElem?_replicate] at hi; split at hi <;> simp at hi
 have hu := unseen_le (List.replicate n.nodes.length false)
 rw [List.length_replicate] at hu
 have hmul : unseen (List.replicate n.nodes.length false) * (n.flows.length + 1) <= 1000 * 1001 := Nat.mul_le_mul (by omega) (by omega)
 obtain ⟨fin, w1, w2, w3⟩ := outer 2000000 [a] _ hinit (by simp; omega) (by omega)
 refine ⟨fin, w1, w2, fun bx => es (met_f hN o2 (by omega) ?_)⟩
 rw [hlen, boolR_rep]
 exact w3 bx
def OkN (n : Nt) : Prop := n.nodes.length <= 24 /\ n.flows.length <= 40 /\ (∀ x ∈ n.nodes, rightN ofT x = true) /\ (∀ f ∈ n.flows, leadsN ofT n f = true) /\ (∀ i, i < n.nodes.length -> thirdW n i = false) /\ 0 <= startN n /\ 0 <= endN n ∧
 ∀ i : Nat, i < n.nodes.length -> Rch (EdgeB n false) (startN n) i /\ Rch (EdgeB n true) (endN n) i
theorem leads_ends {n : Nt} (h : ∀ f ∈ n.flows, leadsN ofT n f = true) : Ends n := fun f hf => by
 have := h f hf
 simp only [leadsN, inN, Bool.and_eq_true, dqE] at this
 omega
theorem filter_cons_iff {w : Nat -> Bool} {m : Nat} : (List.range m).filter w = [] ↔ ∀ i, i < m -> w i = false := by
 simp [List.filter_eq_nil_iff]
theorem plR_cons {r : Int} {ks : List Nat} (h : ks ≠ []) : ∃ q rs, plR r ks = [dI r, dI q] :: rs := by
 cases ks with
 | nil => exact absurd rfl h
 | cons k ks => exact ⟨k, plR r ks, rfl⟩
theorem ncheck_ev {n : Nt} {N F : D} (h : IsN n N F) (hfl : n.flows.length <= 1000) (hnd : n.nodes.length <= 1000) (hz : ∀ t ∈ termsN n, sizeT t <= 1000000) :
  ∃ r q : Int, (r = 0 ↔ OkN n) /\ ∀ bx : List Box, ev cfg (.call 17 [.agg [.dat N, .dat F]] bx) = some (.ret (.tup [I r, I q]) none) := by
 obtain ⟨o1, o2⟩ := isN_one h
 have h0 := h
 obtain ⟨nr, fr, hN, hnr, _, hF, hfr, _⟩ := h
 have hlen : nr.length = n.nodes.length := hnr.1
 have hflen : fr.length = n.flows.length := hfr.1
 have done : ∀ (r q : Int) (rs : List (List D)), (r = 0 ↔ OkN n) -> (∀ bx : List Box, ev cfg (.call 33 [.agg [.dat N, .dat F]] bx) = some (.ret (.own true 2 ([dI r, dI q] :: rs)) none)) →
   ∃ r q : Int, (r = 0 ↔ OkN n) /\ ∀ bx : List Box, ev cfg (.call 17 [.agg [.dat N, .dat F]] bx) = some (.ret (.tup [I r, I q]) none) :=
  fun r q rs h1 h2 => ⟨r, q, h1, fun bx => es (check_1 o1 o2 h2)⟩
 by_cases hb : (decide ((nr.length : Int) > 24) || decide ((fr.length : Int) > 40)) = true
 ·refine done 1 0 [] ⟨fun e => (by cases e), fun e => ?_⟩ fun bx => es (all_big hN hF hb)
  simp only [Bool.or_eq_true, dqE] at hb
  obtain ⟨e1, e2, _⟩ := e
  omega
 have hb' := hb
 simp only [Bool.not_eq_true, Bool.or_eq_false_iff] at hb'
 obtain ⟨c1, c2⟩ := hb'
 have hn24 : n.nodes.length <= 24 /\ n.flows.length <= 40 := by
  simp only [decide_eq_false_iff_not] at c1 c2; omega
 have hpl1 := fun bx : List Box => places_ev (g := 46) (cap := [bx.length]) 1 (m := n.nodes.length) (bx := bx ++ [[.dat N, .dat F]]) (fun p => !(match n.nodes[p]? with | some x => rightN ofT x | none => true)) (by simp) (by omega) fun p hp => by
  obtain ⟨row, hrow, _, _, op2, m2, K2, rfl, hT2⟩ := hnr.get hp
  have hm : n.nodes[p].t ∈ termsN n := List.mem_append_left _ (List.mem_map.2 ⟨_, List.getElem_mem hp, rfl⟩)
  have := all1_f (bx := bx ++ [[.dat N, .dat F]]) (l := bx.length) hN o2 (by simp) (by simp) hrow (isT_one hT2) fun bx => right_ev n.nodes[p] hT2 (hz _ hm) bx
  refine es (this.trans ?_)
  simp [hp]
 rw [<- hlen] at hpl1
 have hall1 : (List.range nr.length).filter (fun p => !(match n.nodes[p]? with | some x => rightN ofT x | none => true)) = [] ↔ ∀ x ∈ n.nodes, rightN ofT x = true := by
  rw [filter_cons_iff, hlen]
  constructor
  ·intro h x hx
   obtain ⟨i, hi, rfl⟩ := List.getElem_of_mem hx
   have := h i hi
   simpa [hi] using this
  ·intro h i hi
   simp [hi, h]
 by_cases k1 : ¬((List.range nr.length).filter (fun p => !(match n.nodes[p]? with | some x => rightN ofT x | none => true)) = [])
 ·obtain ⟨q, rs, e⟩ := plR_cons (r := 1) k1
  rw [e] at hpl1
  refine done 1 q rs ⟨fun e => (by cases e), fun e => absurd (hall1.2 e.2.2.1) k1⟩ fun bx => es (all_1 hN hF c1 c2 (by simp) (hpl1 bx))
 replace k1 := Classical.not_not.1 k1
 rw [k1] at hpl1
 have hpl2 := fun bx : List Box => places_ev (g := 48) (cap := [bx.length]) 2 (m := n.flows.length) (bx := bx ++ [[.dat N, .dat F]]) (fun p => !(match n.flows[p]? with | some x => leadsN ofT n x | none => true)) (by simp) (by omega) fun p hp => by
  obtain ⟨row, hrow, _, _, op2, m2, K2, rfl, hT2⟩ := hfr.get hp
  have hm : n.flows[p].c ∈ termsN n := List.mem_append_right _ (List.mem_map.2 ⟨_, List.getElem_mem hp, rfl⟩)
  have := all2_f (bx := bx ++ [[.dat N, .dat F]]) (l := bx.length) o1 hF (by simp) (by simp) hrow (isT_one hT2) fun bx => leads_ev h0 (by omega) n.flows[p] hT2 (hz _ hm) bx
  refine es (this.trans ?_)
  simp [hp]
 rw [<- hflen] at hpl2
 have hall2 : (List.range fr.length).filter (fun p => !(match n.flows[p]? with | some x => leadsN ofT n x | none => true)) = [] ↔ ∀ x ∈ n.flows, leadsN ofT n x = true := by
  rw [filter_cons_iff, hflen]
  constructor
  ·intro h x hx
   obtain ⟨i, hi, rfl⟩ := List.getElem_of_mem hx
   have := h i hi
   simpa [hi] using this
  ·intro h i hi
   simp [hi, h]
 by_cases k2 : ¬((List.range fr.length).filter (fun p => !(match n.flows[p]? with | some x => leadsN ofT n x | none => true)) = [])
 ·obtain ⟨q, rs, e⟩ := plR_cons (r := 2) k2
  rw [e] at hpl2
  refine done 2 q rs ⟨fun e => (by cases e), fun e => absurd (hall2.2 e.2.2.2.1) k2⟩ fun bx => es (all_2 hN hF c1 c2 (by simp) (hpl1 bx) (hpl2 bx))
 replace k2 := Classical.not_not.1 k2
 rw [k2] at hpl2
 have hEnds := leads_ends (hall2.1 k2)
 have h3 := fun bx : List Box => third_ev h0 (by omega) (by omega) hEnds bx
 by_cases k3 : ¬((∀ i, i < n.nodes.length -> thirdW n i = false) /\ 0 <= startN n /\ 0 <= endN n)
 ·have hne : ∃ q rs, plR 3 ((List.range n.nodes.length).filter (thirdW n)) ++ (if (decide (startN n < 0) || decide (endN n < 0)) = true then [[dI 3, dI n.nodes.length]] else []) = [dI 3, dI q] :: rs := by
   by_cases k4 : (List.range n.nodes.length).filter (thirdW n) = []
   ·rw [k4]
    have : ¬ (0 <= startN n /\ 0 <= endN n) := fun hh => k3 ⟨filter_cons_iff.1 k4, hh⟩
    rw [if_pos (by simp only [Bool.or_eq_true, dqE]; omega)]
    exact ⟨n.nodes.length, [], rfl⟩
   ·obtain ⟨q, rs, e⟩ := plR_cons (r := 3) k4
    rw [e]; exact ⟨q, _, rfl⟩
  obtain ⟨q, rs, e⟩ := hne
  rw [e] at h3
  exact done 3 q rs ⟨fun e => (by cases e), fun e => absurd ⟨e.2.2.2.2.1, e.2.2.2.2.2.1, e.2.2.2.2.2.2.1⟩ k3⟩ fun bx => es (all_3 hN hF c1 c2 (by simp) (hpl1 bx) (hpl2 bx) h3)
 replace k3 := Classical.not_not.1 k3
 obtain ⟨k3a, k3s, k3z⟩ := k3
 have e3 : plR 3 ((List.range n.nodes.length).filter (thirdW n)) ++ (if (decide (startN n < 0) || decide (endN n < 0)) = true then [[dI 3, dI n.nodes.length]] else []) = [] := by
  rw [filter_cons_iff.2 k3a, if_neg (by simp only [Bool.or_eq_true, dqE]; omega)]; rfl
 rw [e3] at h3
 have hs : 0 <= startN n /\ startN n < n.nodes.length := ⟨k3s, by have := firstK_ge 1 n.nodes 0; rw [startN] at k3s ⊢; omega⟩
 have he : 0 <= endN n /\ endN n < n.nodes.length := ⟨k3z, by have := firstK_ge 2 n.nodes 0; rw [endN] at k3z ⊢; omega⟩
 obtain ⟨sr, s1, s2, s3⟩ := met_ev h0 (by omega) (by omega) hEnds false hs
 obtain ⟨tr, t1, t2, t3⟩ := met_ev h0 (by omega) (by omega) hEnds true he
 have hpl4 := fun bx : List Box => places_ev (g := 54) (cap := [bx.length + 1, bx.length + 2]) 4 (m := n.nodes.length) (bx := bx ++ [[.dat N, .dat F], [.dat (.sl 1 (boolR sr))], [.dat (.sl 1 (boolR tr))]]) (fun p => !(sr.getD p true) || !(tr.getD p true)) (by simp) (by omega) fun p hp => by
  have p1 : sr[p]? = some (sr.getD p true) := by simp [List.getD, s1, hp]
  have p2 : tr[p]? = some (tr.getD p true) := by simp [List.getD, t1, hp]
  have r1 := boolR_get p1
  have r2 := boolR_get p2
  have b1 : (bx ++ [[.dat N, .dat F], [.dat (.sl 1 (boolR sr))], [.dat (.sl 1 (boolR tr))]] : List Box)[bx.length + 1]? = some [.dat (.sl 1 (boolR sr))] := by simp
  have b2 : (bx ++ [[.dat N, .dat F], [.dat (.sl 1 (boolR sr))], [.dat (.sl 1 (boolR tr))]] : List Box)[bx.length + 2]? = some [.dat (.sl 1 (boolR tr))] := by simp
  have l1 : bx.length + 1 < (bx ++ [[.dat N, .dat F], [.dat (.sl 1 (boolR sr))], [.dat (.sl 1 (boolR tr))]] : List Box).length := by simp
  have l2 : bx.length + 2 < (bx ++ [[.dat N, .dat F], [.dat (.sl 1 (boolR sr))], [.dat (.sl 1 (boolR tr))]] : List Box).length := by simp
  generalize sr.getD p true = x at r1 ⊢
  generalize tr.getD p true = y at r2 ⊢
  exact es (all3_f l1 l2 b1 b2 r1 r2)
 rw [<- hlen] at hpl4
 have hA : ∀ bx : List Box, ev cfg (.call 33 [.agg [.dat N, .dat F]] bx) = some (.ret (mkS 2 (plR 4 ((List.range nr.length).filter (fun p => !(sr.getD p true) || !(tr.getD p true))))) none) := by
  generalize (List.range nr.length).filter (fun p => !(sr.getD p true) || !(tr.getD p true)) = ks at hpl4
  intro bx
  have q1 := hpl1 bx
  have q2 := hpl2 bx
  have q4 := hpl4 bx
  have q5 := fun bx : List Box => start_ev h0 bx
  have q6 := fun bx : List Box => end_ev h0 bx
  exact es (all_4 (Z := mkS 2 (plR 4 ks)) (rs := plR 4 ks) (sr := boolR sr) (tr := boolR tr) (s := startN n) (z := endN n) hN hF c1 c2 rfl q1 q2 h3 q5 q6 s3 t3 q4)
 have hall4 : (List.range nr.length).filter (fun p => !(sr.getD p true) || !(tr.getD p true)) = [] ↔ ∀ i : Nat, i < n.nodes.length -> Rch (EdgeB n false) (startN n) i /\ Rch (EdgeB n true) (endN n) i := by
  rw [filter_cons_iff, hlen]
  refine forall_congr' fun i => forall_congr' fun hi => ?_
  have p1 : sr[i]? = some (sr.getD i true) := by simp [List.getD, s1, hi]
  have p2 : tr[i]? = some (tr.getD i true) := by simp [List.getD, t1, hi]
  rw [<- s2 i, <- t2 i, p1, p2]
  cases sr.getD i true <;> cases tr.getD i true <;> simp
 by_cases k4 : (List.range nr.length).filter (fun p => !(sr.getD p true) || !(tr.getD p true)) = []
 ·rw [k4] at hA
  exact ⟨0, 0, ⟨fun _ => ⟨hn24.1, hn24.2, hall1.1 k1, hall2.1 k2, k3a, k3s, k3z, hall4.1 k4⟩, fun _ => rfl⟩, fun bx => es (check_0 o1 o2 hA)⟩
 ·obtain ⟨q, rs, e⟩ := plR_cons (r := 4) k4
  rw [e] at hA
  exact done 4 q rs ⟨fun e => (by cases e), fun e => absurd (hall4.2 e.2.2.2.2.2.2.2) k4⟩ hA
end Go.Proofs.YtifckjhggamefaaDoor
