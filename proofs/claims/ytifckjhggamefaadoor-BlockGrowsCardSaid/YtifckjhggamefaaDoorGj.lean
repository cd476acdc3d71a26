/- What the blocks' functions answer: the conversion, and both texts with what is wrong. No condition. -/
import Derived.Test.YtifckjhggamefaaDoorGi
import Derived.Test.YtifckjhggamefaaDoorPb
import Derived.Test.YtifckjhggamefaaDoorGf
import Derived.Test.YtifckjhggamefaaDoorGb
import Derived.Test.YtifckjhggamefaaDoorGa
set_option linter.unusedSimpArgs false
set_option linter.unusedVariables false
set_option linter.unusedSectionVars false
namespace Go.Proofs.YtifckjhggamefaaDoor
open Go Go.Vx
set_option maxRecDepth 10000
set_option maxHeartbeats 1000000
theorem mkD_is (k : Nat) (xs : List (List D)) : IsS k xs (mkD k xs) := by
 cases xs with
 | nil => exact isS_nil k
 | cons => exact isS_sl k _
theorem mkS_snoc (k : Nat) (xs : List (List D)) (r : List D) : mkS k (xs ++ [r]) = .own true k (xs ++ [r]) := by cases xs <;> rfl
theorem rlnk_loop : ∀ (ls : List (Int × Int × Int)) {lr acc : List (List D)} {L : D} {i : Nat} {bx : List Box} {c z : Box} {k0 n0 a0 : Int} {Y : PV}, IsS 3 lr L -> lr.drop i = ls.map lnkD -> lr.length < 9223372036854775808 -> c.all (cellLt (bx.length + 3)) = true -> z.all (cellLt (bx.length + 3)) = true -> cellLt (bx.length + 3) Y = true -> acc.length + ls.length <= 1000 →
  ev cfg (.loop 14 8 (qs bx (sh14_8 (.ptr (bx.length + 1) 0) (.ptr (bx.length + 2) 0) (.dat L) (I lr.length) (I i)) [c, z, [I k0, I n0, I a0, Y, mkS 3 acc]])) =
   some (.loop (.exit 2) (qs bx (se14_8 (.ptr (bx.length + 1) 0) (.ptr (bx.length + 2) 0)) [c, z, [I k0, I n0, I a0, Y, mkS 3 (acc ++ ls.map lnkD)]]))
 | [], lr, acc, L, i, bx, c, z, k0, n0, a0, Y, hL, hr, hmax, hc, hz, hy, hs => by
  rw [List.map_nil, List.append_nil]
  exact es (e12b hc hz hy (by cases acc <;> rfl) (drop_nil hr))
 | x :: ls, lr, acc, L, i, bx, c, z, k0, n0, a0, Y, hL, hr, hmax, hc, hz, hy, hs => by
  rw [List.map_cons] at hr
  obtain ⟨hget, hr', hlt⟩ := drop_cons hr
  rw [List.length_cons] at hs
  have ih := rlnk_loop ls (acc := acc ++ [lnkD x]) (i := i + 1) (bx := bx) (c := c) (z := z) (k0 := k0) (n0 := n0) (a0 := a0) (Y := Y) hL hr' hmax hc hz hy (by simp; omega)
  rw [List.append_assoc, List.singleton_append, <- List.map_cons] at ih
  rw [mkS_snoc] at ih
  cases acc with
  | nil => exact es ((r12bn (f := x.1) (t := x.2.1) (w := x.2.2) hL hc hz hy hget hlt hmax).trans ih)
  | cons y acc => exact es ((r12b (f := x.1) (t := x.2.1) (w := x.2.2) (ls := y :: acc) hL hc hz hy hget hlt hmax (by simp at hs ⊢; omega)).trans ih)
theorem ref_ev : ∀ (b : Blk) {k n a : Int} {K L : D}, IsB b k n a K L -> okB b -> ∃ M N, IsB b k n a M N /\ ∀ bx : List Box, ev cfg (.call 14 [.agg [I k, I n, I a, .dat K, .dat L]] bx) = some (.ret (.agg [I k, I n, I a, .dat M, .dat N]) none)
 | .mk _ _ _ ks ls, k, n, a, K, L, h, hok => by
  rw [IsB] at h
  obtain ⟨rfl, rfl, rfl, ik, hn, ha, rows, hK, hks, hmax, hL, hlm, hx⟩ := h
  rw [okB] at hok
  obtain ⟨o1, o2, o3⟩ := hok
  obtain ⟨rows', hr', hloop⟩ := loop ks (i := 0) hK rfl hks (by rw [isBs_len hks]; exact hmax) o3
  refine ⟨mkD 5 rows', mkD 3 (ls.map lnkD), ?_, fun bx => ?_⟩
  ·rw [IsB]
   exact ⟨rfl, rfl, rfl, ik, hn, ha, rows', mkD_is _ _, hr', hmax, mkD_is _ _, hlm, hx⟩
  ·exact es (f12 (ks := rows') (ls := ls.map lnkD) hK hL (fun c z hc hz => hloop [] bx c z k n a (by simp; omega) hc hz) fun c z hc hz => rlnk_loop ls (acc := []) (i := 0) hL rfl (by simpa using hlm) hc hz (by cases rows' <;> rfl) (by simp; omega))
where
 loop : ∀ (bs : List Blk) {rows rs : List (List D)} {K : D} {i : Nat}, IsS 5 rows K -> rows.drop i = rs -> IsB.IsBs bs rs -> rows.length < 9223372036854775808 -> okB.go bs -> ∃ rows', IsB.IsBs bs rows' /\ ∀ (acc : List (List D)) (bx : List Box) (c z : Box) (k0 n0 a0 : Int), acc.length + bs.length <= 1000 -> c.all (cellLt (bx.length + 3)) = true -> z.all (cellLt (bx.length + 3)) = true →
  ev cfg (.loop 14 3 (qs bx (sh14_3 (.ptr bx.length 0) (.ptr (bx.length + 1) 0) (.ptr (bx.length + 2) 0) (.dat K) (I rows.length) (I i)) [c, z, [I k0, I n0, I a0, mkS 5 acc, .dat .nil]])) =
   some (.loop (.exit 0) (qs bx (se14_3 (.ptr bx.length 0) (.ptr (bx.length + 1) 0) (.ptr (bx.length + 2) 0)) [c, z, [I k0, I n0, I a0, mkS 5 (acc ++ rows'), .dat .nil]]))
 | [], rows, rs, K, i, hK, hr, hbs, hmax, hok => by
  rw [IsB.IsBs] at hbs
  subst hbs
  refine ⟨[], by rw [IsB.IsBs], fun acc bx c z k0 n0 a0 hs hc hz => ?_⟩
  rw [List.append_nil]
  exact es (e12 hc hz (by cases acc <;> rfl) (drop_nil hr))
 | b :: bs, rows, rs, K, i, hK, hr, hbs, hmax, hok => by
  rw [IsB.IsBs] at hbs
  obtain ⟨k, n, a, K', L', rest, rfl, hB, hrest⟩ := hbs
  obtain ⟨hget, hr', hlt⟩ := drop_cons hr
  rw [okB.go] at hok
  obtain ⟨M, N, q1, q2⟩ := ref_ev b hB hok.1
  obtain ⟨rows', p1, p2⟩ := loop bs (i := i + 1) hK hr' hrest hmax hok.2
  refine ⟨[dI k, dI n, dI a, M, N] :: rows', ?_, fun acc bx c z k0 n0 a0 hs hc hz => ?_⟩
  ·rw [IsB.IsBs]; exact ⟨k, n, a, M, N, rows', rfl, q1, p1⟩
  ·rw [List.length_cons] at hs
   have ih := p2 (acc ++ [[dI k, dI n, dI a, M, N]]) bx c z k0 n0 a0 (by simp; omega) hc hz
   rw [List.append_assoc, List.singleton_append, mkS_snoc] at ih
   cases acc with
   | nil => exact es ((r12n hK hc hz hget hlt hmax (isB_one hB).1 (isB_one hB).2 (isB_one q1).1 (isB_one q1).2 q2).trans ih)
   | cons y acc => exact es ((r12 (ks := y :: acc) hK hc hz hget hlt hmax (isB_one hB).1 (isB_one hB).2 (isB_one q1).1 (isB_one q1).2 (by simp at hs ⊢; omega) q2).trans ih)
def longB (b : Blk) : Bool := decide (deepB b > 24) || decide (sizeB b > 96)
theorem long_ev (b : Blk) {k n a : Int} {K L : D} (h : IsB b k n a K L) (hz : sizeB b <= 1000000) (bx : List Box) : ev cfg (.call 18 [.agg [I k, I n, I a, .dat K, .dat L]] bx) = some (.ret (B (longB b)) none) := by
 obtain ⟨⟨_, hK⟩, _, hL⟩ := isB_K h
 exact es (f33 hK hL (deep_ev b h hz) (size_ev b h hz))
def ofT (t : Trm) (k : Int) : Bool := (checkT t).2 == 0 && (checkT t).1 == k
def natR (ks : List Nat) : List (List D) := ks.map fun (k : Nat) => [dI ((k : Nat) : Int)]
theorem none_ev (t : Trm) {op n : Int} {K : D} (h : IsT t op n K) (bx : List Box) : ev cfg (.call 64 [.agg [I op, I n, .dat K]] bx) = some (.ret (B (noneT t)) none) := by
 obtain ⟨op', n', ks⟩ := t
 rw [IsT] at h
 obtain ⟨rfl, rfl, _, _, rows, hK, hks, _⟩ := h
 rw [es (none_r hK), isTs_len hks]
 have e : (op == 0 && (n == 0 && (ks.length : Int) == 0)) = noneT (.mk op n ks) := by
  rw [noneT, <- Bool.and_assoc]
  congr 1
  cases ks with
  | nil => rfl
  | cons b bs =>
   have : (((b :: bs).length : Int) == 0) = false := by rw [beq_eq_false_iff_ne]; simp; omega
   rw [this]; rfl
 rw [e]
theorem of_ev (t : Trm) {op n : Int} {K : D} (h : IsT t op n K) (hz : sizeT t <= 1000000) (k : Int) (bx : List Box) : ev cfg (.call 63 [.agg [I op, I n, .dat K], I k] bx) = some (.ret (B (ofT t k)) none) :=
 es (of_r (isT_one h) fun bx => check_ev t h hz bx)
theorem zero_is : IsT (.mk 0 0 []) 0 0 .nil := by
 rw [IsT]
 exact ⟨rfl, rfl, ⟨by omega, by omega⟩, ⟨by omega, by omega⟩, [], mkD_is 3 [], rfl, by decide⟩
theorem right_ev (x : Nd) {op n : Int} {K : D} (h : IsT x.t op n K) (hz : sizeT x.t <= 1000000) (bx : List Box) : ev cfg (.call 47 [.agg [I x.k, I x.a, I op, I n, .dat K]] bx) = some (.ret (B (rightN ofT x)) none) := by
 obtain ⟨k, a, t⟩ := x
 simp only at h hz ⊢
 have hn := fun bx : List Box => none_ev t h bx
 have ho := fun bx : List Box => of_ev t h hz 1 bx
 by_cases h4 : k = 4
 ·subst h4
  rw [rightN, if_pos rfl]
  simp only
  cases hb : ofT t 1 with
  | false =>
   rw [hb] at ho
   exact es (right_4n (isT_one h) ho)
  | true =>
   rw [hb] at ho
   rw [es (right_4y (isT_one h) ho fun bx => none_ev _ zero_is bx)]
   rfl
 ·rw [rightN, if_neg h4]
  simp only
  by_cases h3 : k = 3
  ·subst h3
   rw [es (right_3 (isT_one h) hn)]
   simp only [most, if_true, Bool.and_assoc]
   all_goals rfl
  ·by_cases h8 : k = 8
   ·subst h8
    rw [es (right_8 (isT_one h) hn)]
    simp only [most, if_true, Bool.and_assoc]
    all_goals rfl
   ·rw [es (right_o (isT_one h) (by simpa using h4) (by simpa using h3) (by simpa using h8) hn)]
    simp only [most, if_neg h3, if_neg h8, Bool.and_assoc]
    all_goals rfl
theorem isN_one {n : Nt} {N F : D} (h : IsN n N F) : N.oneC = true /\ F.oneC = true := by
 obtain ⟨nr, fr, ⟨_, _, _, h1⟩, _, _, ⟨_, _, _, h2⟩, _⟩ := h
 exact ⟨h1, h2⟩
theorem natR_app (xs ys : List Nat) : natR (xs ++ ys) = natR xs ++ natR ys := by simp [natR]
theorem natR_len (xs : List Nat) : (natR xs).length = xs.length := by simp [natR]
theorem flows_ev {n : Nt} {N F : D} {g : FuncId} {l : Nat} (p : Fl -> Bool) (h : IsN n N F) (hsz : n.flows.length <= 1000000) {bx : List Box} (hl : l < bx.length)
  (hcall : ∀ (f : Fl) op m K, IsT f.c op m K -> ∀ r : List Box, ev cfg (.call g [.agg [I f.fr, I f.to, B f.els, I op, I m, .dat K], .ptr l 0] (bx ++ r)) = some (.ret (B (p f)) none)) :
  ev cfg (.call 59 [.agg [.dat N, .dat F], .clo g [l]] bx) = some (.ret (.dat (mkD 1 (natR (idxs p 0 n.flows)))) none) := by
 have hone := (isN_one h).1
 obtain ⟨nr, fr, hN, _, _, hF, hfr, hmax⟩ := h
 have hlen : fr.length = n.flows.length := hfr.1
 have loop : ∀ (fs : List Fl) (i : Nat) (acc : List Nat), n.flows.drop i = fs -> acc.length <= i -> ∀ c : Box, c.all (cellLt (bx.length + 1)) = true →
   ev cfg (.loop 59 3 (qs bx (sh59_3 (.clo g [l]) (mkS 1 (natR acc)) (.dat F) (I fr.length) (I i)) [c])) = some (.loop (.exit 0) (qs bx (se59_3 (mkS 1 (natR (acc ++ idxs p i fs)))) [c])) := by
  intro fs
  induction fs with
  | nil =>
   intro i acc hd ha c hc
   rw [idxs, List.append_nil]
   exact es (flows_end rfl hl hc (by rw [hlen]; exact drop_nil hd))
  | cons f fs ih =>
   intro i acc hd ha c hc
   obtain ⟨hget, hd', hlt⟩ := drop_cons hd
   obtain ⟨row, hrow, _, _, op, m, K, rfl, hT⟩ := hfr.2 i f hget
   have hc1 := hcall f op m K hT
   have hks : ((natR acc).length + 1) * 8 <= 140737488355328 := by rw [natR_len]; omega
   have e : acc ++ idxs p i (f :: fs) = (if p f = true then acc ++ [i] else acc) ++ idxs p (i + 1) fs := by
    rw [idxs]
    split <;> simp
   rw [e]
   have hacc : (if p f = true then acc ++ [i] else acc).length <= i + 1 := by split <;> (try simp) <;> omega
   have := ih (i + 1) (if p f = true then acc ++ [i] else acc) hd' hacc c hc
   refine es (Eq.trans ?_ this)
   cases acc with
   | nil =>
    refine (flows_round0 hF hl hc hrow (by rw [hlen]; exact hlt) (by rw [hlen]; exact hmax) (isT_one hT) hc1).trans ?_
    cases p f <;> rfl
   | cons a acc =>
    refine (flows_round1 (rs := natR (a :: acc)) hF hl hc hrow (by rw [hlen]; exact hlt) (by rw [hlen]; exact hmax) (isT_one hT) hks hc1).trans ?_
    cases p f
    ·rfl
    ·simp only [if_true, natR_app]; rfl
 refine es (flows_f hone hF hl fun c hc => ?_)
 have := loop n.flows 0 [] rfl (Nat.le_refl _) c hc
 rw [List.nil_append] at this
 exact this
theorem outs_ev {n : Nt} {N F : D} (h : IsN n N F) (hsz : n.flows.length <= 1000000) (i : Int) (bx : List Box) : ev cfg (.call 39 [.agg [.dat N, .dat F], I i] bx) = some (.ret (.dat (mkD 1 (natR (outsN n i)))) none) := by
 refine es (outs_f (isN_one h).1 (isN_one h).2 (mkD_one _ _) fun c => ?_)
 exact flows_ev (fun f => f.fr == i) h hsz (by simp) fun f op m K hT r => es (outs1_f (isT_one hT) (by simp) (by simp))
theorem ins_ev {n : Nt} {N F : D} (h : IsN n N F) (hsz : n.flows.length <= 1000000) (i : Int) (bx : List Box) : ev cfg (.call 83 [.agg [.dat N, .dat F], I i] bx) = some (.ret (.dat (mkD 1 (natR (insN n i)))) none) := by
 refine es (ins_f (isN_one h).1 (isN_one h).2 (mkD_one _ _) fun c => ?_)
 exact flows_ev (fun f => f.to == i) h hsz (by simp) fun f op m K hT r => es (ins1_f (isT_one hT) (by simp) (by simp))
theorem index_ev {n : Nt} {N F : D} (h : IsN n N F) {g : FuncId} (k : Int) (hcall : ∀ (x : Nd) op m K, IsT x.t op m K -> ∀ bx : List Box, ev cfg (.call g [.agg [I x.k, I x.a, I op, I m, .dat K]] bx) = some (.ret (B (x.k == k)) none)) (bx : List Box) :
  ev cfg (.call 68 [.dat N, .clo g []] bx) = some (.ret (I (firstK k 0 n.nodes)) none) := by
 obtain ⟨nr, fr, hN, hnr, hmax, _⟩ := h
 have hlen : nr.length = n.nodes.length := hnr.1
 have loop : ∀ (xs : List Nd) (i : Nat), n.nodes.drop i = xs -> ∃ y : Option Int, firstK k i xs = y.getD (-1) /\ ev cfg (.loop 68 2 (q0 bx (sh68_2 (.dat N) (.clo g []) (I nr.length) (I i)))) = some (match y with
   | some j => .loop .ret (q0 bx (se68_2 (I j)))
   | none => .loop (.exit 0) (q0 bx (se68_2 .dead))) := by
  intro xs
  induction xs with
  | nil =>
   intro i hd
   exact ⟨none, rfl, es (index_end (by rw [hlen]; exact drop_nil hd))⟩
  | cons x xs ih =>
   intro i hd
   obtain ⟨hget, hd', hlt⟩ := drop_cons hd
   obtain ⟨row, hrow, _, _, op, m, K, rfl, hT⟩ := hnr.2 i x hget
   have hr := index_round (bx := bx) hN hrow (by rw [hlen]; exact hlt) (by rw [hlen]; exact hmax) (isT_one hT) (fun bx => hcall x op m K hT bx)
   rw [firstK]
   by_cases hx : x.k = k
   ·rw [if_pos hx]
    rw [show (x.k == k) = true by simpa using hx, if_pos rfl] at hr
    exact ⟨some i, rfl, es hr⟩
   ·rw [if_neg hx]
    rw [show (x.k == k) = false by simpa using hx, if_neg (by decide)] at hr
    obtain ⟨y, h1, h2⟩ := ih (i + 1) hd'
    exact ⟨y, by simpa using h1, es (hr.trans h2)⟩
 obtain ⟨y, h1, h2⟩ := loop n.nodes 0 rfl
 have h1' : firstK k 0 n.nodes = y.getD (-1) := h1
 rw [h1']
 exact es (index_f hN h2)
theorem start_ev {n : Nt} {N F : D} (h : IsN n N F) (bx : List Box) : ev cfg (.call 52 [.agg [.dat N, .dat F]] bx) = some (.ret (I (startN n)) none) :=
 es (start_f (isN_one h).1 (isN_one h).2 fun bx => index_ev h 1 (fun x op m K hT bx => es (start1_f (isT_one hT))) bx)
theorem end_ev {n : Nt} {N F : D} (h : IsN n N F) (bx : List Box) : ev cfg (.call 53 [.agg [.dat N, .dat F]] bx) = some (.ret (I (endN n)) none) :=
 es (end_f (isN_one h).1 (isN_one h).2 fun bx => index_ev h 2 (fun x op m K hT bx => es (end1_f (isT_one hT))) bx)
theorem lead1_ev {n : Nt} {N F : D} (h : IsN n N F) (q : Int) {bx : List Box} {l : Nat} (hb : bx[l]? = some [.dat N, .dat F]) : ev cfg (.call 65 [I q, .ptr l 0] bx) = some (.ret (B (inN n q)) none) := by
 obtain ⟨nr, fr, hN, hnr, _⟩ := h
 rw [es (leads1_f hN (gsi.1 hb).1 hb), hnr.1]
 rfl
theorem leads_ev {n : Nt} {N F : D} (h : IsN n N F) (hsz : n.flows.length <= 1000000) (f : Fl) {op m : Int} {K : D} (hT : IsT f.c op m K) (hz : sizeT f.c <= 1000000) (bx : List Box) :
  ev cfg (.call 49 [.agg [.dat N, .dat F], .agg [I f.fr, I f.to, B f.els, I op, I m, .dat K]] bx) = some (.ret (B (leadsN ofT n f)) none) := by
 have h1 := fun c : Box => lead1_ev h f.fr (bx := bx ++ [[.dat N, .dat F], c]) (l := bx.length) (by simp)
 have h2 := fun c : Box => lead1_ev h f.to (bx := bx ++ [[.dat N, .dat F], c]) (l := bx.length) (by simp)
 obtain ⟨o1, o2⟩ := isN_one h
 cases c1 : inN n f.fr with
 | false =>
  rw [c1] at h1
  have e : leadsN ofT n f = false := by simp [leadsN, c1]
  rw [e]
  exact es (leads_no1 o1 o2 (isT_one hT) h1)
 | true =>
  rw [c1] at h1
  cases c2 : inN n f.to with
  | false =>
   rw [c2] at h2
   have e : leadsN ofT n f = false := by simp [leadsN, c2]
   rw [e]
   exact es (leads_no2 o1 o2 (isT_one hT) h1 h2 (.inl rfl))
  | true =>
   rw [c2] at h2
   cases c3 : (f.fr == f.to) with
   | true =>
    have e : leadsN ofT n f = false := by simp [leadsN, bne, c3]
    rw [e]
    exact es (leads_no2 o1 o2 (isT_one hT) h1 h2 (.inr c3))
   | false =>
    have hin : 0 <= f.fr /\ f.fr < n.nodes.length := by simpa [inN] using c1
    obtain ⟨p, hp⟩ : ∃ p : Nat, f.fr = p := ⟨f.fr.toNat, by omega⟩
    have hpl : p < n.nodes.length := by omega
    have hh := h
    obtain ⟨nr, fr, hN, hnr, _⟩ := hh
    obtain ⟨row, hrow, _, _, op2, m2, K2, rfl, hT2⟩ := hnr.get hpl
    have hO := fun bx : List Box => outs_ev h hsz f.fr bx
    have hkind : kindN n f.fr = n.nodes[p].k := by
     rw [kindN, if_neg (by omega), hp]
     simp [hpl]
    rw [hp] at h1 c3 hO ⊢
    rw [es (leads_go (e := f.els) (op := op) (n := m) (K := K) hN o2 (isT_one hT) h1 h2 c3 hrow (mkD_is _ _) hO (fun bx => none_ev f.c hT bx) fun bx => of_ev f.c hT hz 2 bx)]
    congr 4
    rw [natR_len]
    have e : leadsN ofT n f = if kindN n f.fr ≠ 5 ∨ (outsN n f.fr).length < 2 then !f.els && noneT f.c else if f.els = true then noneT f.c else ofT f.c 2 := by
     rw [leadsN, c1, c2]
     have : (f.fr != f.to) = true := by rw [bne, hp, c3]; rfl
     rw [this]; rfl
    rw [e, hkind, <- hp]
    congr 1
    simp only [Bool.or_eq_true, bne_iff_ne, ne_eq, dqE]
    refine propext (or_congr Iff.rfl ?_)
    rw [hp]; omega
end Go.Proofs.YtifckjhggamefaaDoor
