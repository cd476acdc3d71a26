/- What the reference of layer 5 answers: 0 just if the process is right. No condition. -/
import Derived.Test.YtifckjhggamefaaGreatDoorGt
import Derived.Test.YtifckjhggamefaaGreatDoorGk
import Derived.Test.YtifckjhggamefaaGreatDoorGo
set_option linter.unusedSimpArgs false
set_option linter.unusedVariables false
set_option linter.unusedSectionVars false
namespace Go.Proofs.YtifckjhggamefaaGreatDoor
open Go Go.Vx
set_option maxRecDepth 10000
set_option maxHeartbeats 1000000
theorem rnone_ev (t : Trm) {op n : Int} {K : D} (h : IsT t op n K) (bx : List Box) : ev cfg (.call 70 [Tq op n K] bx) = Rq (B (noneT t)) := by
 obtain ⟨op', n', ks⟩ := t
 rw [IsT] at h
 obtain ⟨rfl, rfl, _, _, rows, hK, hks, _⟩ := h
 rw [es (rnone_r hK), isTs_len hks]
 have e : (op == 0 && (n == 0 && (ks.length : Int) == 0)) = noneT (.mk op n ks) := by
  rw [noneT, <- Bool.and_assoc]
  congr 1
  cases ks with
  | nil => rfl
  | cons b bs =>
   have : (((b :: bs).length : Int) == 0) = false := by rw [beq_eq_false_iff_ne]; simp; omega
   rw [this]; rfl
 rw [e]
theorem rof_ev (t : Trm) {op n : Int} {K : D} (h : IsT t op n K) (hz : sizeT t <= 1000000) (k : Int) (bx : List Box) : ev cfg (.call 69 [Tq op n K, I k] bx) = Rq (B (ofT t k)) :=
 es (rof_r (isT_one h) fun bx => rcheck_ev t h hz bx)
theorem rone_ev (x : Nd) {op n : Int} {K : D} (h : IsT x.t op n K) (hz : sizeT x.t <= 1000000) (bx : List Box) : ev cfg (.call 37 [.agg [I x.k, I x.a, I op, I n, .dat K]] bx) = Rq (B (rightN ofT x)) := by
 obtain ⟨k, a, t⟩ := x
 simp only at h hz ⊢
 have hn := fun bx : List Box => rnone_ev t h bx
 have ho := fun bx : List Box => rof_ev t h hz 1 bx
 by_cases hb : (decide (k < 1) || (decide (k > 8) || decide (a < 0))) = true
 ·rw [es (rone_bad (isT_one h) hb)]
  simp only [Bool.or_eq_true, dqE] at hb
  rw [rightN]
  by_cases h4 : k = 4
  ·subst h4
   rw [if_pos rfl]
   have : decide (0 <= a) = false := dqf (by omega)
   simp [this]
  ·rw [if_neg h4]
   by_cases h1 : k < 1
   ·have : decide (1 <= k) = false := dqf (by omega)
    simp [this]
   by_cases h8 : k > 8
   ·have : decide (k <= 8) = false := dqf (by omega)
    simp [this]
   have : decide (0 <= a) = false := dqf (by omega)
   simp [this]
 ·simp only [Bool.or_eq_true, not_or, Bool.not_eq_true] at hb
  obtain ⟨b1, b2, b3⟩ := hb
  have c1 : decide (1 <= k) = true := dqt (by simp at b1; omega)
  have c2 : decide (k <= 8) = true := dqt (by simp at b2; omega)
  have c3 : decide (0 <= a) = true := dqt (by simp at b3; omega)
  rw [rightN]
  by_cases h4 : k = 4
  ·subst h4
   rw [if_pos rfl, es (rone_4 (isT_one h) b3 ho)]
   have : decide (a < 4) = decide (a <= 3) := decide_eq_decide.2 (by omega)
   simp only [c3, this, Bool.true_and, Bool.and_comm]
  rw [if_neg h4]
  simp only [c1, c2, c3, Bool.true_and]
  by_cases h3 : k = 3
  ·subst h3
   rw [es (rone_3 (isT_one h) b3 hn)]; rfl
  by_cases h8 : k = 8
  ·subst h8
   rw [es (rone_8 (isT_one h) b3 hn)]; rfl
  ·rw [es (rone_o (isT_one h) b1 b2 b3 (by simpa using h4) (by simpa using h3) (by simpa using h8) hn), most, if_neg h3, if_neg h8]
theorem routs_ev {n : Nt} {N F : D} (h : IsN n N F) (hsz : n.flows.length <= 1000000) (q : Int) (bx : List Box) : ev cfg (.call 55 [Nq N F, I q] bx) = Rq (.dat (mkD 1 (natR (outsN n q)))) := by
 obtain ⟨oN, oF⟩ := isN_one h
 obtain ⟨nr, fr, hN, _, _, hF, hfr, hmax⟩ := h
 have hlen : fr.length = n.flows.length := hfr.1
 have loop : ∀ (fs : List Fl) (i : Nat) (acc : List Nat), n.flows.drop i = fs -> acc.length <= i -> ∀ c : Box, c.all (cellLt (bx.length + 1)) = true →
   ev cfg (.loop 55 3 (qs bx (sh55_3 (I q) (mkS 1 (natR acc)) (.dat F) (I fr.length) (I i)) [c])) = some (.loop (.exit 0) (qs bx (se55_3 (mkS 1 (natR (acc ++ idxs (fun f => f.fr == q) i fs)))) [c])) := by
  intro fs
  induction fs with
  | nil =>
   intro i acc hd ha c hc
   rw [idxs, List.append_nil]
   exact es (routs_end oF hc (by rw [hlen]; exact drop_nil hd))
  | cons f fs ih =>
   intro i acc hd ha c hc
   obtain ⟨hget, hd', hlt⟩ := drop_cons hd
   obtain ⟨row, hrow, _, _, op, m, K, rfl, hT⟩ := hfr.2 i f hget
   have hks : ((natR acc).length + 1) * 8 <= 140737488355328 := by rw [natR_len]; omega
   have e : acc ++ idxs (fun f => f.fr == q) i (f :: fs) = (if (f.fr == q) = true then acc ++ [i] else acc) ++ idxs (fun f => f.fr == q) (i + 1) fs := by
    rw [idxs]
    split <;> simp
   rw [e]
   have hacc : (if (f.fr == q) = true then acc ++ [i] else acc).length <= i + 1 := by split <;> (try simp) <;> omega
   have := ih (i + 1) (if (f.fr == q) = true then acc ++ [i] else acc) hd' hacc c hc
   refine es (Eq.trans ?_ this)
   cases acc with
   | nil =>
    refine (routs_round0 hF hc hrow (by rw [hlen]; exact hlt) (by rw [hlen]; exact hmax) (isT_one hT)).trans ?_
    cases (f.fr == q) <;> rfl
   | cons a acc =>
    refine (routs_round1 (rs := natR (a :: acc)) hF hc hrow (by rw [hlen]; exact hlt) (by rw [hlen]; exact hmax) (isT_one hT) hks).trans ?_
    cases (f.fr == q)
    ·rfl
    ·simp only [if_true, natR_app]; rfl
 refine es (routs_f oN hF fun c hc => ?_)
 have := loop n.flows 0 [] rfl (Nat.le_refl _) c hc
 rw [List.nil_append] at this
 exact this
theorem rins_ev {n : Nt} {N F : D} (h : IsN n N F) (hsz : n.flows.length <= 1000000) (q : Int) (bx : List Box) : ev cfg (.call 54 [Nq N F, I q] bx) = Rq (.dat (mkD 1 (natR (insN n q)))) := by
 obtain ⟨oN, oF⟩ := isN_one h
 obtain ⟨nr, fr, hN, _, _, hF, hfr, hmax⟩ := h
 have hlen : fr.length = n.flows.length := hfr.1
 have loop : ∀ (fs : List Fl) (i : Nat) (acc : List Nat), n.flows.drop i = fs -> acc.length <= i -> ∀ c : Box, c.all (cellLt (bx.length + 1)) = true →
   ev cfg (.loop 54 3 (qs bx (sh54_3 (I q) (mkS 1 (natR acc)) (.dat F) (I fr.length) (I i)) [c])) = some (.loop (.exit 0) (qs bx (se54_3 (mkS 1 (natR (acc ++ idxs (fun f => f.to == q) i fs)))) [c])) := by
  intro fs
  induction fs with
  | nil =>
   intro i acc hd ha c hc
   rw [idxs, List.append_nil]
   exact es (rins_end oF hc (by rw [hlen]; exact drop_nil hd))
  | cons f fs ih =>
   intro i acc hd ha c hc
   obtain ⟨hget, hd', hlt⟩ := drop_cons hd
   obtain ⟨row, hrow, _, _, op, m, K, rfl, hT⟩ := hfr.2 i f hget
   have hks : ((natR acc).length + 1) * 8 <= 140737488355328 := by rw [natR_len]; omega
   have e : acc ++ idxs (fun f => f.to == q) i (f :: fs) = (if (f.to == q) = true then acc ++ [i] else acc) ++ idxs (fun f => f.to == q) (i + 1) fs := by
    rw [idxs]
    split <;> simp
   rw [e]
   have hacc : (if (f.to == q) = true then acc ++ [i] else acc).length <= i + 1 := by split <;> (try simp) <;> omega
   have := ih (i + 1) (if (f.to == q) = true then acc ++ [i] else acc) hd' hacc c hc
   refine es (Eq.trans ?_ this)
   cases acc with
   | nil =>
    refine (rins_round0 hF hc hrow (by rw [hlen]; exact hlt) (by rw [hlen]; exact hmax) (isT_one hT)).trans ?_
    cases (f.to == q) <;> rfl
   | cons a acc =>
    refine (rins_round1 (rs := natR (a :: acc)) hF hc hrow (by rw [hlen]; exact hlt) (by rw [hlen]; exact hmax) (isT_one hT) hks).trans ?_
    cases (f.to == q)
    ·rfl
    ·simp only [if_true, natR_app]; rfl
 refine es (rins_f oN hF fun c hc => ?_)
 have := loop n.flows 0 [] rfl (Nat.le_refl _) c hc
 rw [List.nil_append] at this
 exact this
theorem rfirst_ev {n : Nt} {N F : D} (h : IsN n N F) (k : Int) (bx : List Box) : ev cfg (.call 39 [Nq N F, I k] bx) = Rq (I (firstK k 0 n.nodes)) := by
 obtain ⟨oN, oF⟩ := isN_one h
 obtain ⟨nr, fr, hN, hnr, hmax, _⟩ := h
 have hlen : nr.length = n.nodes.length := hnr.1
 have loop : ∀ (xs : List Nd) (i : Nat), n.nodes.drop i = xs -> ∃ y : Option Int, firstK k i xs = y.getD (-1) /\ ∀ c : Box, c.all (cellLt (bx.length + 1)) = true -> ev cfg (.loop 39 2 (qs bx (sh39_2 (I k) (.dat N) (I nr.length) (I i)) [c])) = some (match y with
   | some j => .loop .ret (qs bx (se39_2 (I j)) [c])
   | none => .loop (.exit 0) (qs bx (se39_2 .dead) [c])) := by
  intro xs
  induction xs with
  | nil =>
   intro i hd
   exact ⟨none, rfl, fun c hc => es (rfirst_end oN hc (by rw [hlen]; exact drop_nil hd))⟩
  | cons x xs ih =>
   intro i hd
   obtain ⟨hget, hd', hlt⟩ := drop_cons hd
   obtain ⟨row, hrow, _, _, op, m, K, rfl, hT⟩ := hnr.2 i x hget
   have hr := fun (c : Box) (hc : c.all (cellLt (bx.length + 1)) = true) => rfirst_round (bx := bx) (q := k) hN oF hc hrow (by rw [hlen]; exact hlt) (by rw [hlen]; exact hmax) (isT_one hT)
   rw [firstK]
   by_cases hx : x.k = k
   ·rw [if_pos hx]
    refine ⟨some i, rfl, fun c hc => ?_⟩
    have := hr c hc
    rw [show (x.k == k) = true by simpa using hx, if_pos rfl] at this
    exact es this
   ·rw [if_neg hx]
    obtain ⟨y, h1, h2⟩ := ih (i + 1) hd'
    refine ⟨y, by simpa using h1, fun c hc => ?_⟩
    have := hr c hc
    rw [show (x.k == k) = false by simpa using hx, if_neg (by decide)] at this
    exact es (this.trans (h2 c hc))
 obtain ⟨y, h1, h2⟩ := loop n.nodes 0 rfl
 have h1' : firstK k 0 n.nodes = y.getD (-1) := h1
 rw [h1']
 exact es (rfirst_f hN oF h2)
theorem rtwo_ev {n : Nt} {N F : D} (h : IsN n N F) (hsz : n.flows.length <= 1000000) (f : Fl) {op m : Int} {K : D} (hT : IsT f.c op m K) (hz : sizeT f.c <= 1000000) (bx : List Box) :
  ev cfg (.call 38 [Nq N F, .agg [I f.fr, I f.to, B f.els, I op, I m, .dat K]] bx) = Rq (B (leadsN ofT n f)) := by
 have hh := h
 obtain ⟨oN, oF⟩ := isN_one h
 obtain ⟨nr, fr, hN, hnr, _⟩ := h
 have hlen : nr.length = n.nodes.length := hnr.1
 by_cases hb : (decide (f.fr < 0) || (decide (f.fr >= (nr.length : Int)) || (decide (f.to < 0) || (decide (f.to >= (nr.length : Int)) || f.fr == f.to)))) = true
 ·rw [es (rtwo_bad hN oF (isT_one hT) hb)]
  simp only [Bool.or_eq_true, dqE, beq_iff_eq] at hb
  have : (inN n f.fr && inN n f.to && (f.fr != f.to)) = false := by
   rw [Bool.eq_false_iff]
   intro hc
   simp only [inN, Bool.and_eq_true, dqE, bne_iff_ne, ne_eq] at hc
   omega
  rw [leadsN, this, Bool.false_and]
 ·simp only [Bool.or_eq_true, not_or, Bool.not_eq_true] at hb
  obtain ⟨b1, b2, b3, b4, b5⟩ := hb
  have c1 : ¬ f.fr < 0 := by simpa using b1
  have c2 : ¬ f.fr >= (nr.length : Int) := by simpa using b2
  have c3 : ¬ f.to < 0 := by simpa using b3
  have c4 : ¬ f.to >= (nr.length : Int) := by simpa using b4
  have c5 : f.fr ≠ f.to := by simpa using b5
  have hin : (inN n f.fr && inN n f.to && (f.fr != f.to)) = true := by
   simp only [inN, Bool.and_eq_true, dqE, bne_iff_ne, ne_eq]
   omega
  obtain ⟨p, hp⟩ : ∃ p : Nat, f.fr = p := ⟨f.fr.toNat, by omega⟩
  have hpl : p < n.nodes.length := by omega
  obtain ⟨row, hrow, _, _, op2, m2, K2, rfl, hT2⟩ := hnr.get hpl
  have hkind : kindN n f.fr = n.nodes[p].k := by rw [hp]; exact kind_at hpl
  have hn := fun bx : List Box => rnone_ev f.c hT bx
  have ho := fun bx : List Box => rof_ev f.c hT hz 2 bx
  rw [leadsN, hin, Bool.true_and, hkind]
  rw [hp] at b1 b2 b5 ⊢
  by_cases h5 : n.nodes[p].k = 5
  ·rw [h5] at hrow ⊢
   rw [es (rtwo_5 (e := f.els) hN oF (isT_one hT) hrow b1 b2 b3 b4 b5 (mkD_is _ _) (fun bx => routs_ev hh hsz p bx) hn ho), natR_len]
   by_cases hg : ((outsN n p).length : Int) >= 2
   ·rw [if_pos hg, if_neg (show ¬ ((5 : Int) ≠ 5 ∨ (outsN n p).length < 2) by omega)]
   ·rw [if_neg hg, if_pos (show (5 : Int) ≠ 5 ∨ (outsN n p).length < 2 by omega)]
  ·rw [es (rtwo_o (v2 := false) (e := f.els) hN oF (isT_one hT) hrow b1 b2 b3 b4 b5 (by simpa using h5) hn), if_pos (.inl h5)]
theorem rthree_ev {n : Nt} {N F : D} (h : IsN n N F) (hsz : n.flows.length <= 1000000) (hE : Ends n) {p : Nat} (hp : p < n.nodes.length) (bx : List Box) :
  ev cfg (.call 40 [Nq N F, I p] bx) = Rq (B (linkedN n p)) := by
 have hO := fun bx : List Box => routs_ev h hsz p bx
 have hI := fun bx : List Box => rins_ev h hsz p bx
 have hol : (outsN n p).length <= 1000000 := Nat.le_trans (idxs_len _ _ _) hsz
 obtain ⟨o1, o2⟩ := isN_one h
 obtain ⟨nr, fr, hN, hnr, _, hF, hfr, _⟩ := h
 obtain ⟨row, hrow, _, _, op2, m2, K2, rfl, hT2⟩ := hnr.get hp
 have hX := mkD_is 1 (natR (outsN n p))
 have hXl : (natR (outsN n p)).length = (outsN n p).length := natR_len _
 have loop : ∀ (os : List Nat) (i el ot : Nat), (outsN n p).drop i = os -> el <= i -> ot <= i →
   ev cfg (.loop 40 7 (qs bx (sh40_7 (I p) (P0 bx) (I (natR (insN n p)).length) (I (natR (outsN n p)).length) (I el) (I ot) (.dat (mkD 1 (natR (outsN n p)))) (I (natR (outsN n p)).length) (I i)) [Nb N F])) =
   some (.loop (.exit 0) (qs bx (se40_7 (I p) (P0 bx) (I (natR (insN n p)).length) (I (natR (outsN n p)).length) (I ((el + (os.filter (elsN n)).length : Nat) : Int)) (I ((ot + (os.filter fun f => kindN n (toN n f) != 8).length : Nat) : Int))) [Nb N F])) := by
  intro os
  induction os with
  | nil =>
   intro i el ot hd _ _
   rw [List.filter_nil, List.length_nil, Nat.add_zero, List.filter_nil, List.length_nil, Nat.add_zero]
   exact es (rthree_end o1 o2 (mkD_one _ _) (by rw [hXl]; exact drop_nil hd))
  | cons o os ih =>
   intro i el ot hd hel hot
   obtain ⟨hget, hd', hlt⟩ := drop_cons hd
   have hol2 : o < n.flows.length := outs_lt (mog hget)
   obtain ⟨row, hfrow, _, _, op, m, K, rfl, hT⟩ := hfr.get hol2
   have hends := hE n.flows[o] (List.getElem_mem hol2)
   obtain ⟨q, hq⟩ : ∃ q : Nat, n.flows[o].to = q := ⟨n.flows[o].to.toNat, by omega⟩
   have hql : q < n.nodes.length := by omega
   obtain ⟨row, hnrow, _, _, op3, m3, K3, rfl, hT3⟩ := hnr.get hql
   rw [hq] at hfrow
   have hXget : (natR (outsN n p))[i]? = some [dI (o : Int)] := by simp [natR, hget]
   have hr := rthree_round (bx := bx) (p := p) (irs := natR (insN n p)) (el := (el : Int)) (ot := (ot : Int)) hN hF hX hXget hfrow hnrow (by rw [hXl]; exact hlt) (by rw [hXl]; omega) (wrap_lo (by omega) (by omega)) (wrap_lo (by omega) (by omega))
   have hk8 : (n.nodes[q].k != 8) = (kindN n (toN n o) != 8) := by rw [to_at hol2, hq, kind_at hql]
   have hel' : (if n.flows[o].els = true then (el : Int) + 1 else el) = ((if elsN n o = true then el + 1 else el : Nat) : Int) := by
    rw [els_at hol2]; split <;> simp
   have hot' : (if (n.nodes[q].k != 8) = true then (ot : Int) + 1 else ot) = ((if (kindN n (toN n o) != 8) = true then ot + 1 else ot : Nat) : Int) := by
    rw [hk8]; split <;> simp
   rw [hel', hot'] at hr
   have e1 : el + ((o :: os).filter (elsN n)).length = (if elsN n o = true then el + 1 else el) + (os.filter (elsN n)).length := by
    rw [List.filter_cons]; split <;> simp <;> omega
   have e2 : ot + ((o :: os).filter fun f => kindN n (toN n f) != 8).length = (if (kindN n (toN n o) != 8) = true then ot + 1 else ot) + (os.filter fun f => kindN n (toN n f) != 8).length := by
    rw [List.filter_cons]; split <;> simp <;> omega
   rw [e1, e2]
   exact es (hr.trans (ih (i + 1) (if elsN n o = true then el + 1 else el) (if (kindN n (toN n o) != 8) = true then ot + 1 else ot) hd' (by split <;> omega) (by split <;> omega)))
 have hl0 := loop (outsN n p) 0 0 0 rfl (Nat.le_refl _) (Nat.le_refl _)
 have hk : kindN n p = n.nodes[p].k := kind_at hp
 have hY := mkD_is 1 (natR (insN n p))
 have hYl : (natR (insN n p)).length = (insN n p).length := natR_len _
 have g0 : ∀ m : Nat, ((m : Int) == 0) = (m == 0) := fun m => beq_nat m 0
 have g1 : ∀ m : Nat, ((m : Int) == 1) = (m == 1) := fun m => beq_nat m 1
 have gg : ∀ m : Nat, decide ((m : Int) >= 2) = decide (1 < m) := fun m => decide_eq_decide.2 (by omega)
 have ga : (((outsN n p).filter fun f => kindN n (toN n f) != 8).length == 0) = (outsN n p).all fun f => kindN n (toN n f) == 8 := by
  rw [Bool.eq_iff_iff, beq_iff_eq, List.all_eq_true, List.length_eq_zero_iff, List.filter_eq_nil_iff]
  exact forall_congr' fun f => forall_congr' fun _ => by simp
 rw [linkedN]
 simp only [hk]
 generalize n.nodes[p].k = k at hrow
 simp only [Nat.zero_add] at hl0
 by_cases k1 : k = 1
 ·subst k1
  rw [if_pos rfl, es (rthree_1 hN o2 hX hY hrow hO hI hl0), hXl, hYl, g0, g1]
 rw [if_neg k1]
 by_cases k2 : k = 2
 ·subst k2
  rw [if_pos rfl, es (rthree_2 hN o2 hX hY hrow hO hI hl0), hXl, hYl, g0, g1]
 rw [if_neg k2]
 by_cases k7 : k = 7
 ·subst k7
  rw [if_pos rfl, es (rthree_7 hN o2 hX hY hrow hO hI hl0), hXl, hYl, gg, g1, g0, ga]
 rw [if_neg k7]
 by_cases k5 : k = 5
 ·subst k5
  rw [if_pos rfl, es (rthree_5 hN o2 hX hY hrow hO hI hl0), hXl, hYl, gg, gg, g1, g1, g1, <- Bool.and_assoc]
 rw [if_neg k5]
 by_cases k6 : k = 6
 ·subst k6
  rw [if_pos rfl, es (rthree_6 hN o2 hX hY hrow hO hI hl0), hXl, hYl, gg, gg, g1, g1]
 rw [if_neg k6, es (rthree_o (by simpa using k1) (by simpa using k2) (by simpa using k5) (by simpa using k6) (by simpa using k7) hN o2 hX hY hrow hO hI hl0), hXl, hYl, g1, g1]
theorem rep_set (m p : Nat) : (List.replicate m [D.lit (.bool false)]).set p [.lit (.bool true)] = rboolR ((List.replicate m false).set p true) := by
 rw [<- rbool_set]; congr 1; simp [rboolR]
theorem rreach_ev {n : Nt} {N F : D} (h : IsN n N F) (hsz : n.nodes.length <= 1000000) (hE : Ends n) {p : Nat} (hp : p < n.nodes.length) (bx : List Box) :
  ev cfg (.call 41 [Nq N F, I p] bx) = Rq (.own true 1 (rboolR (passes n.flows n.nodes.length ((List.replicate n.nodes.length false).set p true)))) := by
 obtain ⟨o1, o2⟩ := isN_one h
 obtain ⟨nr, fr, hN, hnr, _, hF, hfr, hfm⟩ := h
 have hlen : nr.length = n.nodes.length := hnr.1
 have hflen : fr.length = n.flows.length := hfr.1
 have inner : ∀ (fs : List Fl) (i : Nat) (m l : Nat) (o : List Bool), n.flows.drop i = fs -> o.length = n.nodes.length →
   ev cfg (.loop 41 6 (qs bx (sh41_6 (P0 bx) (.own true 1 (rboolR o)) (I m) (I l) (.dat F) (I fr.length) (I i)) [Nb N F])) =
    some (.loop (.exit 2) (qs bx (se41_6 (P0 bx) (.own true 1 (rboolR (pass fs o))) (I m) (I l)) [Nb N F])) := by
  intro fs
  induction fs with
  | nil =>
   intro i m l o hd ho
   exact es (rreach_inend o2 o1 (by rw [hflen]; exact drop_nil hd))
  | cons f fs ih =>
   intro i m l o hd ho
   obtain ⟨hget, hd', hlt⟩ := drop_cons hd
   obtain ⟨row, hrow, _, _, op, mm, K, rfl, hT⟩ := hfr.2 i f hget
   have hends := hE f (mog hget)
   obtain ⟨p, hp⟩ : ∃ p : Nat, f.fr = p := ⟨f.fr.toNat, by omega⟩
   obtain ⟨q, hq⟩ : ∃ q : Nat, f.to = q := ⟨f.to.toNat, by omega⟩
   have hpl : p < o.length := by omega
   have hql : q < o.length := by omega
   rw [hp, hq] at hrow
   have hr := rreach_in (bx := bx) (m := m) (l := l) hF o1 hrow (by rw [hflen]; exact hlt) (by rw [hflen]; omega) (isT_one hT) (gge hpl) hql
   have e : (if o[p] = true then o.set q true else o) = passF o f := by
    rw [passF, hp, hq, tnc, tnc, gge hpl]
    cases o[p] <;> simp
   rw [e] at hr
   have := ih (i + 1) m l (passF o f) hd' (by rw [passF_len]; exact ho)
   exact es (hr.trans this)
 have outer : ∀ (k l : Nat) (o : List Bool), l + k = n.nodes.length -> o.length = n.nodes.length →
   ev cfg (.loop 41 4 (qs bx (sh41_4 (P0 bx) (.own true 1 (rboolR o)) (I nr.length) (I l)) [Nb N F])) =
    some (.loop (.exit 0) (qs bx (se41_4 (.own true 1 (rboolR (passes n.flows k o)))) [Nb N F])) := by
  intro k
  induction k with
  | zero =>
   intro l o hk ho
   exact es (rreach_outend o2 o1 (by omega))
  | succ k ih =>
   intro l o hk ho
   have hr := rreach_out (bx := bx) (m := nr.length) (l := l) (o := o) hF o1 (by omega) (by omega) (inner n.flows 0 nr.length l o rfl ho)
   have := ih (l + 1) (pass n.flows o) (by omega) (by rw [pass_len]; exact ho)
   exact es (hr.trans this)
 have hlo := outer n.nodes.length 0 ((List.replicate n.nodes.length false).set p true) (by omega) (by simp)
 refine es (rreach_f o2 hN (by omega) (by omega) (by rw [List.getElem?_replicate, if_pos (by omega)]) (by rw [hlen]; exact rep_set _ _) hlo)
theorem thirdW_ref {n : Nt} {i : Nat} (hi : i < n.nodes.length) : (!linkedN n i || ((n.nodes[i].k == 1 && decide ((i : Int) > startN n)) || (n.nodes[i].k == 2 && decide ((i : Int) > endN n)))) = thirdW n i := by
 rw [thirdW, kind_at hi]
 have go : ∀ k : Int, (n.nodes[i].k == k && decide ((i : Int) > firstK k 0 n.nodes)) = (n.nodes[i].k == k && (i : Int) != firstK k 0 n.nodes) := fun k => by
  by_cases hk : n.nodes[i].k = k
  ·have := firstK_le k n.nodes 0 i n.nodes[i] (gge hi) hk (by omega)
   rw [show (n.nodes[i].k == k) = true by simpa using hk, Bool.true_and, Bool.true_and, Bool.eq_iff_iff, dqE, bne_iff_ne]
   omega
  ·rw [show (n.nodes[i].k == k) = false by simpa using hk, Bool.false_and, Bool.false_and]
 rw [startN, endN, go 1, go 2]
theorem rncheck_ev {n : Nt} {N F : D} (h : IsN n N F) (hfl : n.flows.length <= 1000) (hnd : n.nodes.length <= 1000) (hz : ∀ t ∈ termsN n, sizeT t <= 1000000) :
  ∃ r q : Int, (r = 0 ↔ OkN n) /\ Cq 18 [Nq N F] (.agg [I r, I q]) := by
 obtain ⟨o1, o2⟩ := isN_one h
 have h0 := h
 obtain ⟨nr, fr, hN, hnr, _, hF, hfr, _⟩ := h
 have hlen : nr.length = n.nodes.length := hnr.1
 have hflen : fr.length = n.flows.length := hfr.1
 by_cases hb : (decide ((nr.length : Int) > 24) || decide ((fr.length : Int) > 40)) = true
 ·refine ⟨1, 0, ⟨fun e => (by cases e), fun e => ?_⟩, fun bx => es (rcheck_big hN hF hb)⟩
  simp only [Bool.or_eq_true, dqE] at hb
  obtain ⟨e1, e2, _⟩ := e
  omega
 have hb' := hb
 simp only [Bool.not_eq_true, Bool.or_eq_false_iff] at hb'
 obtain ⟨c1, c2⟩ := hb'
 have hn24 : n.nodes.length <= 24 /\ n.flows.length <= 40 := by
  simp only [decide_eq_false_iff_not] at c1 c2; omega
 have loop4 : ∀ (xs : List Nd) (i : Nat), n.nodes.drop i = xs -> (∃ q : Int, ¬ (∀ x ∈ xs, rightN ofT x = true) /\ ∀ bx : List Box, ev cfg (.loop 18 4 (qs bx (sh18_4 (P0 bx) (P1 bx) (.dat N) (I nr.length) (I i)) [Nb N F, [I 0, I 0]])) = some (.loop .ret (qs bx (se18_4 (P0 bx) (P1 bx)) [Nb N F, [I 1, I q]]))) ∨
   ((∀ x ∈ xs, rightN ofT x = true) /\ ∀ bx : List Box, ev cfg (.loop 18 4 (qs bx (sh18_4 (P0 bx) (P1 bx) (.dat N) (I nr.length) (I i)) [Nb N F, [I 0, I 0]])) = some (.loop (.exit 0) (qs bx (se18_4 (P0 bx) (P1 bx)) [Nb N F, [I 0, I 0]]))) := by
  intro xs
  induction xs with
  | nil => exact fun i hd => .inr ⟨(fun x hx => by cases hx), fun bx => es (rc4e o1 o2 (by rw [hlen]; exact drop_nil hd))⟩
  | cons x xs ih =>
   intro i hd
   obtain ⟨hget, hd', hlt⟩ := drop_cons hd
   obtain ⟨row, hrow, _, _, op, m, K, rfl, hT⟩ := hnr.2 i x hget
   have hm : x.t ∈ termsN n := List.mem_append_left _ (List.mem_map.2 ⟨_, mog hget, rfl⟩)
   have hr := fun bx : List Box => rc4 (bx := bx) hN o2 hrow (by rw [hlen]; exact hlt) (by omega) (isT_one hT) fun bx => rone_ev x hT (hz _ hm) bx
   cases hv : rightN ofT x with
   | false =>
    simp only [hv, Bool.not_false, if_true] at hr
    exact .inl ⟨i, (fun hall => by have := hall x (mcs ..); rw [hv] at this; cases this), fun bx => es (hr bx)⟩
   | true =>
    simp only [hv, Bool.not_true, Bool.false_eq_true, if_false] at hr
    rcases ih (i + 1) hd' with ⟨q, h1, h2⟩ | ⟨h1, h2⟩
    ·exact .inl ⟨q, fun hall => h1 fun y hy => hall y (mcm _ hy), fun bx => es ((hr bx).trans (h2 bx))⟩
    ·exact .inr ⟨fun y hy => by rcases List.mem_cons.1 hy with rfl | hy; exact hv; exact h1 y hy, fun bx => es ((hr bx).trans (h2 bx))⟩
 rcases loop4 n.nodes 0 rfl with ⟨q, k1, hl4⟩ | ⟨k1, hl4⟩
 ·exact ⟨1, q, ⟨fun e => (by cases e), fun e => absurd e.2.2.1 k1⟩, fun bx => es (rcheck_1 hN hF c1 c2 (hl4 bx))⟩
 have loop10 : ∀ (xs : List Fl) (i : Nat), n.flows.drop i = xs -> (∃ q : Int, ¬ (∀ x ∈ xs, leadsN ofT n x = true) /\ ∀ bx : List Box, ev cfg (.loop 18 10 (qs bx (sh18_10 (P0 bx) (P1 bx) (.dat F) (I fr.length) (I i)) [Nb N F, [I 0, I 0]])) = some (.loop .ret (qs bx (se18_10 (P0 bx) (P1 bx)) [Nb N F, [I 2, I q]]))) ∨
   ((∀ x ∈ xs, leadsN ofT n x = true) /\ ∀ bx : List Box, ev cfg (.loop 18 10 (qs bx (sh18_10 (P0 bx) (P1 bx) (.dat F) (I fr.length) (I i)) [Nb N F, [I 0, I 0]])) = some (.loop (.exit 2) (qs bx (se18_10 (P0 bx) (P1 bx)) [Nb N F, [I 0, I 0]]))) := by
  intro xs
  induction xs with
  | nil => exact fun i hd => .inr ⟨(fun x hx => by cases hx), fun bx => es (rc10e o1 o2 (by rw [hflen]; exact drop_nil hd))⟩
  | cons x xs ih =>
   intro i hd
   obtain ⟨hget, hd', hlt⟩ := drop_cons hd
   obtain ⟨row, hrow, _, _, op, m, K, rfl, hT⟩ := hfr.2 i x hget
   have hm : x.c ∈ termsN n := List.mem_append_right _ (List.mem_map.2 ⟨_, mog hget, rfl⟩)
   have hr := fun bx : List Box => rc10 (bx := bx) o1 hF hrow (by rw [hflen]; exact hlt) (by omega) (isT_one hT) fun bx => rtwo_ev h0 (by omega) x hT (hz _ hm) bx
   cases hv : leadsN ofT n x with
   | false =>
    simp only [hv, Bool.not_false, if_true] at hr
    exact .inl ⟨i, (fun hall => by have := hall x (mcs ..); rw [hv] at this; cases this), fun bx => es (hr bx)⟩
   | true =>
    simp only [hv, Bool.not_true, Bool.false_eq_true, if_false] at hr
    rcases ih (i + 1) hd' with ⟨q, h1, h2⟩ | ⟨h1, h2⟩
    ·exact .inl ⟨q, fun hall => h1 fun y hy => hall y (mcm _ hy), fun bx => es ((hr bx).trans (h2 bx))⟩
    ·exact .inr ⟨fun y hy => by rcases List.mem_cons.1 hy with rfl | hy; exact hv; exact h1 y hy, fun bx => es ((hr bx).trans (h2 bx))⟩
 rcases loop10 n.flows 0 rfl with ⟨q, k2, hl10⟩ | ⟨k2, hl10⟩
 ·exact ⟨2, q, ⟨fun e => (by cases e), fun e => absurd e.2.2.2.1 k2⟩, fun bx => es (rcheck_2 hN hF c1 c2 (hl4 bx) (hl10 bx))⟩
 have hEnds := leads_ends k2
 have hs := fun bx : List Box => rfirst_ev h0 1 bx
 have hzz := fun bx : List Box => rfirst_ev h0 2 bx
 have loop18 : ∀ (k i : Nat), i + k = n.nodes.length -> (∃ q : Int, ¬ (∀ j, i <= j -> j < n.nodes.length -> thirdW n j = false) /\ ∀ bx : List Box, ev cfg (.loop 18 18 (qs bx (sh18_18 (P0 bx) (P1 bx) (I (startN n)) (I (endN n)) (.dat N) (I nr.length) (I i)) [Nb N F, [I 0, I 0]])) = some (.loop .ret (qs bx (se18_18 (P0 bx) (P1 bx) (I (startN n)) (I (endN n))) [Nb N F, [I 3, I q]]))) ∨
   ((∀ j, i <= j -> j < n.nodes.length -> thirdW n j = false) /\ ∀ bx : List Box, ev cfg (.loop 18 18 (qs bx (sh18_18 (P0 bx) (P1 bx) (I (startN n)) (I (endN n)) (.dat N) (I nr.length) (I i)) [Nb N F, [I 0, I 0]])) = some (.loop (.exit 4) (qs bx (se18_18 (P0 bx) (P1 bx) (I (startN n)) (I (endN n))) [Nb N F, [I 0, I 0]]))) := by
  intro k
  induction k with
  | zero => exact fun i hk => .inr ⟨fun j h1 h2 => by omega, fun bx => es (rc18e o1 o2 (by omega))⟩
  | succ k ih =>
   intro i hk
   have hi : i < n.nodes.length := by omega
   obtain ⟨row, hrow, _, _, op, m, K, rfl, hT⟩ := hnr.get hi
   have hr := fun bx : List Box => rc18 (bx := bx) (s := startN n) (z := endN n) hN o2 hrow (by omega) (by omega) (isT_one hT) fun bx => rthree_ev h0 (by omega) hEnds hi bx
   rw [thirdW_ref hi] at hr
   cases hv : thirdW n i with
   | true =>
    simp only [hv, if_true] at hr
    exact .inl ⟨i, (fun hall => by have := hall i (Nat.le_refl _) hi; rw [hv] at this; cases this), fun bx => es (hr bx)⟩
   | false =>
    simp only [hv, Bool.false_eq_true, if_false] at hr
    rcases ih (i + 1) (by omega) with ⟨q, h1, h2⟩ | ⟨h1, h2⟩
    ·exact .inl ⟨q, fun hall => h1 fun j hj hj2 => hall j (by omega) hj2, fun bx => es ((hr bx).trans (h2 bx))⟩
    ·refine .inr ⟨fun j hj hj2 => ?_, fun bx => es ((hr bx).trans (h2 bx))⟩
     by_cases e : j = i
     ·subst e; exact hv
     ·exact h1 j (by omega) hj2
 rcases loop18 n.nodes.length 0 (by omega) with ⟨q, k3, hl18⟩ | ⟨k3, hl18⟩
 ·exact ⟨3, q, ⟨fun e => (by cases e), fun e => absurd (fun j _ h2 => e.2.2.2.2.1 j h2) k3⟩, fun bx => es (rcheck_3 hN hF c1 c2 (hl4 bx) (hl10 bx) hs hzz (hl18 bx))⟩
 by_cases hsz : (decide (startN n < 0) || decide (endN n < 0)) = true
 ·refine ⟨3, nr.length, ⟨fun e => (by cases e), fun e => ?_⟩, fun bx => es (rcheck_3b hN hF c1 c2 (hl4 bx) (hl10 bx) hs hzz (hl18 bx) hsz)⟩
  simp only [Bool.or_eq_true, dqE] at hsz
  have := e.2.2.2.2.2.1
  have := e.2.2.2.2.2.2.1
  omega
 have hsz' := hsz
 simp only [Bool.not_eq_true, Bool.or_eq_false_iff] at hsz'
 obtain ⟨d1, d2⟩ := hsz'
 have hs0 : 0 <= startN n := by simpa using d1
 have he0 : 0 <= endN n := by simpa using d2
 obtain ⟨sp, hsp⟩ : ∃ sp : Nat, startN n = sp := ⟨(startN n).toNat, by omega⟩
 obtain ⟨zp, hzp⟩ : ∃ zp : Nat, endN n = zp := ⟨(endN n).toNat, by omega⟩
 have hsl : sp < n.nodes.length := by have := firstK_ge 1 n.nodes 0; rw [startN] at hsp hs0; omega
 have hzl : zp < n.nodes.length := by have := firstK_ge 2 n.nodes 0; rw [endN] at hzp he0; omega
 have hrs := fun bx : List Box => rreach_ev h0 (by omega) hEnds hsl bx
 have plen : ∀ (k : Nat) (o : List Bool), (passes n.flows k o).length = o.length := by
  intro k
  induction k with
  | zero => intro o; rfl
  | succ k ih => intro o; rw [passes, ih, pass_len]
 have rlen : ∀ p, (passes n.flows n.nodes.length ((List.replicate n.nodes.length false).set p true)).length = n.nodes.length := fun p => by rw [plen]; simp
 have rch : ∀ {p : Nat}, p < n.nodes.length -> ∀ i : Nat, (hi : i < n.nodes.length) -> ((passes n.flows n.nodes.length ((List.replicate n.nodes.length false).set p true))[i]'(by rw [rlen]; exact hi) = true ↔ Rch (Edge n) p i) := fun {p} hp i hi => by
  rw [<- reach_iff p hp hEnds i, gge (by rw [rlen]; exact hi)]
  simp
 have flip : ∀ {a b : Int}, Rch (EdgeB n true) a b ↔ Rch (Edge n) b a := fun {a b} =>
  ⟨fun hh => Rch.flip (e := fun x y => Edge n y x) hh, fun hh => Rch.flip hh⟩
 have good : ∀ i : Nat, i < n.nodes.length -> ((Rch (EdgeB n false) (startN n) i /\ Rch (EdgeB n true) (endN n) i) ↔ (Rch (Edge n) sp i /\ Rch (Edge n) i zp)) := fun i hi => by
  rw [flip, hsp, hzp]; exact Iff.rfl
 have loop27 : ∀ (k i : Nat), i + k = n.nodes.length -> (∃ q : Int, ¬ (∀ j : Nat, i <= j -> j < n.nodes.length -> Rch (Edge n) sp j /\ Rch (Edge n) j zp) /\ ∀ bx : List Box, ev cfg (.loop 18 27 (qs bx (sh18_27 (P0 bx) (P1 bx) (I (endN n)) (.own true 1 (rboolR (passes n.flows n.nodes.length ((List.replicate n.nodes.length false).set sp true)))) (I nr.length) (I i)) [Nb N F, [I 0, I 0]])) = some (.loop .ret (qs bx (se18_27 (P1 bx)) [Nb N F, [I 4, I q]]))) ∨
   ((∀ j : Nat, i <= j -> j < n.nodes.length -> Rch (Edge n) sp j /\ Rch (Edge n) j zp) /\ ∀ bx : List Box, ev cfg (.loop 18 27 (qs bx (sh18_27 (P0 bx) (P1 bx) (I (endN n)) (.own true 1 (rboolR (passes n.flows n.nodes.length ((List.replicate n.nodes.length false).set sp true)))) (I nr.length) (I i)) [Nb N F, [I 0, I 0]])) = some (.loop (.exit 6) (qs bx (se18_27 (P1 bx)) [Nb N F, [I 0, I 0]]))) := by
  intro k
  induction k with
  | zero => exact fun i hk => .inr ⟨fun j h1 h2 => by omega, fun bx => es (rc27e o1 o2 (by omega))⟩
  | succ k ih =>
   intro i hk
   have hi : i < n.nodes.length := by omega
   have hr := fun bx : List Box => rc27 (bx := bx) (nr := nr) (z := endN n) (p := zp) o1 o2 (by omega) (by omega) hzp (gge (by rw [rlen sp]; exact hi)) (gge (by rw [rlen i]; exact hzl)) fun bx => rreach_ev h0 (by omega) hEnds hi bx
   have q1 := rch hsl i hi
   have q2 := rch hi zp hzl
   by_cases hgood : Rch (Edge n) sp i /\ Rch (Edge n) i zp
   ·rw [q1.2 hgood.1, q2.2 hgood.2] at hr
    simp only [Bool.not_true, Bool.or_self, Bool.false_eq_true, if_false] at hr
    rcases ih (i + 1) (by omega) with ⟨q, h1, h2⟩ | ⟨h1, h2⟩
    ·exact .inl ⟨q, fun hall => h1 fun j hj hj2 => hall j (by omega) hj2, fun bx => es ((hr bx).trans (h2 bx))⟩
    ·refine .inr ⟨fun j hj hj2 => ?_, fun bx => es ((hr bx).trans (h2 bx))⟩
     by_cases e : j = i
     ·subst e; exact hgood
     ·exact h1 j (by omega) hj2
   ·refine .inl ⟨i, fun hall => hgood (hall i (Nat.le_refl _) hi), fun bx => ?_⟩
    have hb : (!(passes n.flows n.nodes.length ((List.replicate n.nodes.length false).set sp true))[i]'(by rw [rlen]; exact hi) || !(passes n.flows n.nodes.length ((List.replicate n.nodes.length false).set i true))[zp]'(by rw [rlen]; exact hzl)) = true := by
     rw [<- q1, <- q2] at hgood
     revert hgood
     generalize (passes n.flows n.nodes.length ((List.replicate n.nodes.length false).set sp true))[i]'(by rw [rlen]; exact hi) = x
     generalize (passes n.flows n.nodes.length ((List.replicate n.nodes.length false).set i true))[zp]'(by rw [rlen]; exact hzl) = y
     cases x <;> cases y <;> simp
    have := hr bx
    rw [if_pos hb] at this
    exact es this
 have hrs' : Cq 41 [Nq N F, I (startN n)] (.own true 1 (rboolR (passes n.flows n.nodes.length ((List.replicate n.nodes.length false).set sp true)))) := fun bx => by rw [hsp]; exact hrs bx
 rcases loop27 n.nodes.length 0 (by omega) with ⟨q, k4, hl27⟩ | ⟨k4, hl27⟩
 ·refine ⟨4, q, ⟨fun e => (by cases e), fun e => absurd (fun j _ h2 => (good j h2).1 (e.2.2.2.2.2.2.2 j h2)) k4⟩, fun bx => es (rcheck_4 hN hF c1 c2 (hl4 bx) (hl10 bx) hs hzz (hl18 bx) d1 d2 hrs' (hl27 bx))⟩
 ·exact ⟨0, 0, ⟨fun _ => ⟨hn24.1, hn24.2, k1, k2, fun j hj => k3 j (Nat.zero_le _) hj, hs0, he0, fun j hj => (good j hj).2 (k4 j (Nat.zero_le _) hj)⟩, fun _ => rfl⟩, fun bx => es (rcheck_0 hN hF c1 c2 (hl4 bx) (hl10 bx) hs hzz (hl18 bx) d1 d2 hrs' (hl27 bx))⟩
end Go.Proofs.YtifckjhggamefaaGreatDoor
