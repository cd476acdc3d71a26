/- What the reference of layer 5 answers: 0 just if the process is right. No condition. -/
import Derived.Test.YtifckjhggamefaaGreatDoorHj
import Derived.Test.YtifckjhggamefaaGreatDoorHu
set_option linter.unusedSimpArgs false
set_option linter.unusedVariables false
set_option linter.unusedSectionVars false
namespace Go.Proofs.YtifckjhggamefaaGreatDoor
open Go Go.Vx
set_option maxRecDepth 10000
set_option maxHeartbeats 1000000
theorem rnone_ev (t : Trm) {op n : Int} {K : D} (h : IsT t op n K) (bx : List Box) : ev cfg (.call 70 [Tq op n K] bx) = Rq (B (noneT t)) := by
 obtain ⟨op',n',ks⟩ := t
 rw [IsT] at h
 obtain ⟨rfl,rfl,_,_,rows,hK,hks,_⟩ := h
 rw [es (rnone_r hK),isTs_len hks]
 have e : (op == 0 && (n == 0 && (ks.length : Int) == 0)) = noneT (.mk op n ks) := by
  rw [noneT,<- Bool.and_assoc]
  congr 1
  cases ks with
  | nil => rfl
  | cons b bs =>
   have : (((b :: bs).length : Int) == 0) = false := by rw [beq_eq_false_iff_ne]; simp; omega
   rw [this]; rfl
 rw [e]
theorem rof_ev (t : Trm) {op n : Int} {K : D} (h : IsT t op n K) (hz : sizeT t <= 1000000) (k : Int) (bx : List Box) : ev cfg (.call 69 [Tq op n K,I k] bx) = Rq (B (ofT t k)) :=
 es (rof_r (isT_one h) fun bx => rcheck_ev t h hz bx)
theorem rone_ev (x : Nd) {op n : Int} {K : D} (h : IsT x.t op n K) (hz : sizeT x.t <= 1000000) (bx : List Box) : ev cfg (.call 37 [.agg [I x.k,I x.a,I op,I n,.dat K]] bx) = Rq (B (rightN ofT x)) := by
 obtain ⟨k,a,t⟩ := x
 simp only at h hz ⊢
 have hn := fun bx : List Box => rnone_ev t h bx
 have ho := fun bx : List Box => rof_ev t h hz 1 bx
 by_cases hb : (decide (k < 1) || (decide (k > 8) || decide (a < 0))) = true
 ·rw [es (rone_bad (isT_one h) hb)]
  simp only [Bool.or_eq_true,dqE] at hb
  rw [rightN]
  by_cases h4 : k = 4
  ·subst h4
   rw [if_pos rfl]
   have : decide (0 <= a) = false := dqf (by omega)
   simp [this]
  ·rw [if_neg h4]
   by_cases h1 : k < 1
   ·have : decide (1 <= k) = false := dqf (by omega)
    simp [this]
   by_cases h8 : k > 8
   ·have : decide (k <= 8) = false := dqf (by omega)
    simp [this]
   have : decide (0 <= a) = false := dqf (by omega)
   simp [this]
 ·simp only [Bool.or_eq_true,not_or,Bool.not_eq_true] at hb
  obtain ⟨b1,b2,b3⟩ := hb
  have c1 : decide (1 <= k) = true := dqt (by simp at b1; omega)
  have c2 : decide (k <= 8) = true := dqt (by simp at b2; omega)
  have c3 : decide (0 <= a) = true := dqt (by simp at b3; omega)
  rw [rightN]
  by_cases h4 : k = 4
  ·subst h4
   rw [if_pos rfl,es (rone_4 (isT_one h) b3 ho)]
   have : decide (a < 4) = decide (a <= 3) := decide_eq_decide.2 (by omega)
   simp only [c3,this,Bool.true_and,Bool.and_comm]
  rw [if_neg h4]
  simp only [c1,c2,c3,Bool.true_and]
  by_cases h3 : k = 3
  ·subst h3
   rw [es (rone_3 (isT_one h) b3 hn)]; rfl
  by_cases h8 : k = 8
  ·subst h8
   rw [es (rone_8 (isT_one h) b3 hn)]; rfl
  ·rw [es (rone_o (isT_one h) b1 b2 b3 (by simpa using h4) (by simpa using h3) (by simpa using h8) hn),most,if_neg h3,if_neg h8]
theorem routs_ev {n : Nt} {N F : D} (h : IsN n N F) (hsz : n.flows.length <= 1000000) (q : Int) (bx : List Box) : ev cfg (.call 55 [Nq N F,I q] bx) = Rq (.dat (mkD 1 (natR (outsN n q)))) := by
 obtain ⟨oN,oF⟩ := isN_one h
 obtain ⟨nr,fr,hN,_,_,hF,hfr,hmax⟩ := h
 have hlen : fr.length = n.flows.length := hfr.1
 have loop : ∀ (fs : List Fl) (i : Nat) (acc : List Nat),n.flows.drop i = fs -> acc.length <= i -> ∀ c : Box,c.all (cellLt (bx.length + 1)) = true →
   ev cfg (.loop 55 3 (qs bx (sh55_3 (I q) (mkS 1 (natR acc)) (.dat F) (I fr.length) (I i)) [c])) = some (.loop (.exit 0) (qs bx (se55_3 (mkS 1 (natR (acc ++ idxs (fun f => f.fr == q) i fs)))) [c])) := by
  intro fs
  induction fs with
  | nil =>
   intro i acc hd ha c hc
   rw [idxs,List.append_nil]
   exact es (routs_end oF hc (by rw [hlen]; exact drop_nil hd))
  | cons f fs ih =>
   intro i acc hd ha c hc
   obtain ⟨hget,hd',hlt⟩ := drop_cons hd
   obtain ⟨row,hrow,_,_,op,m,K,rfl,hT⟩ := hfr.2 i f hget
   have hks : ((natR acc).length + 1) * 8 <= 140737488355328 := by rw [natR_len]; omega
   have e : acc ++ idxs (fun f => f.fr == q) i (f :: fs) = (if (f.fr == q) = true then acc ++ [i] else acc) ++ idxs (fun f => f.fr == q) (i + 1) fs := by
    rw [idxs]
    split <;> simp
   rw [e]
   have hacc : (if (f.fr == q) = true then acc ++ [i] else acc).length <= i + 1 := by split <;> (try simp) <;> omega
   have := ih (i + 1) (if (f.fr == q) = true then acc ++ [i] else acc) hd' hacc c hc
   refine es (Eq.trans ?_ this)
   cases acc with
   | nil =>
    refine (routs_round0 hF hc hrow (by rw [hlen]; exact hlt) (by rw [hlen]; exact hmax) (isT_one hT)).trans ?_
    cases (f.fr == q) <;> rfl
   | cons a acc =>
    refine (routs_round1 (rs := natR (a :: acc)) hF hc hrow (by rw [hlen]; exact hlt) (by rw [hlen]; exact hmax) (isT_one hT) hks).trans ?_
    cases (f.fr == q)
    ·rfl
    ·simp only [if_true,natR_app]; rfl
 refine es (routs_f oN hF fun c hc => ?_)
 have := loop n.flows 0 [] rfl (Nat.le_refl _) c hc
 rw [List.nil_append] at this
 exact this
theorem rins_ev {n : Nt} {N F : D} (h : IsN n N F) (hsz : n.flows.length <= 1000000) (q : Int) (bx : List Box) : ev cfg (.call 54 [Nq N F,I q] bx) = Rq (.dat (mkD 1 (natR (insN n q)))) := by
 obtain ⟨oN,oF⟩ := isN_one h
 obtain ⟨nr,fr,hN,_,_,hF,hfr,hmax⟩ := h
 have hlen : fr.length = n.flows.length := hfr.1
 have loop : ∀ (fs : List Fl) (i : Nat) (acc : List Nat),n.flows.drop i = fs -> acc.length <= i -> ∀ c : Box,c.all (cellLt (bx.length + 1)) = true →
   ev cfg (.loop 54 3 (qs bx (sh54_3 (I q) (mkS 1 (natR acc)) (.dat F) (I fr.length) (I i)) [c])) = some (.loop (.exit 0) (qs bx (se54_3 (mkS 1 (natR (acc ++ idxs (fun f => f.to == q) i fs)))) [c])) := by
  intro fs
  induction fs with
  | nil =>
   intro i acc hd ha c hc
   rw [idxs,List.append_nil]
   exact es (rins_end oF hc (by rw [hlen]; exact drop_nil hd))
  | cons f fs ih =>
   intro i acc hd ha c hc
   obtain ⟨hget,hd',hlt⟩ := drop_cons hd
   obtain ⟨row,hrow,_,_,op,m,K,rfl,hT⟩ := hfr.2 i f hget
   have hks : ((natR acc).length + 1) * 8 <= 140737488355328 := by rw [natR_len]; omega
   have e : acc ++ idxs (fun f => f.to == q) i (f :: fs) = (if (f.to == q) = true then acc ++ [i] else acc) ++ idxs (fun f => f.to == q) (i + 1) fs := by
    rw [idxs]
    split <;> simp
   rw [e]
   have hacc : (if (f.to == q) = true then acc ++ [i] else acc).length <= i + 1 := by split <;> (try simp) <;> omega
   have := ih (i + 1) (if (f.to == q) = true then acc ++ [i] else acc) hd' hacc c hc
   refine es (Eq.trans ?_ this)
   cases acc with
   | nil =>
    refine (rins_round0 hF hc hrow (by rw [hlen]; exact hlt) (by rw [hlen]; exact hmax) (isT_one hT)).trans ?_
    cases (f.to == q) <;> rfl
   | cons a acc =>
    refine (rins_round1 (rs := natR (a :: acc)) hF hc hrow (by rw [hlen]; exact hlt) (by rw [hlen]; exact hmax) (isT_one hT) hks).trans ?_
    cases (f.to == q)
    ·rfl
    ·simp only [if_true,natR_app]; rfl
 refine es (rins_f oN hF fun c hc => ?_)
 have := loop n.flows 0 [] rfl (Nat.le_refl _) c hc
 rw [List.nil_append] at this
 exact this
theorem rfirst_ev {n : Nt} {N F : D} (h : IsN n N F) (k : Int) (bx : List Box) : ev cfg (.call 39 [Nq N F,I k] bx) = Rq (I (firstK k 0 n.nodes)) := by
 obtain ⟨oN,oF⟩ := isN_one h
 obtain ⟨nr,fr,hN,hnr,hmax,_⟩ := h
 have hlen : nr.length = n.nodes.length := hnr.1
 have loop : ∀ (xs : List Nd) (i : Nat),n.nodes.drop i = xs -> ∃ y : Option Int,firstK k i xs = y.getD (-1) /\ ∀ c : Box,c.all (cellLt (bx.length + 1)) = true -> ev cfg (.loop 39 2 (qs bx (sh39_2 (I k) (.dat N) (I nr.length) (I i)) [c])) = some (match y with
   | some j => .loop .ret (qs bx (se39_2 (I j)) [c])
   | none => .loop (.exit 0) (qs bx (se39_2 .dead) [c])) := by
  intro xs
  induction xs with
  | nil =>
   intro i hd
   exact ⟨none,rfl,fun c hc => es (rfirst_end oN hc (by rw [hlen]; exact drop_nil hd))⟩
  | cons x xs ih =>
   intro i hd
   obtain ⟨hget,hd',hlt⟩ := drop_cons hd
   obtain ⟨row,hrow,_,_,op,m,K,rfl,hT⟩ := hnr.2 i x hget
   have hr := fun (c : Box) (hc : c.all (cellLt (bx.length + 1)) = true) => rfirst_round (bx := bx) (q := k) hN oF hc hrow (by rw [hlen]; exact hlt) (by rw [hlen]; exact hmax) (isT_one hT)
   rw [firstK]
   by_cases hx : x.k = k
   ·rw [if_pos hx]
    refine ⟨some i,rfl,fun c hc => ?_⟩
    have := hr c hc
    rw [show (x.k == k) = true by simpa using hx,if_pos rfl] at this
    exact es this
   ·rw [if_neg hx]
    obtain ⟨y,h1,h2⟩ := ih (i + 1) hd'
    refine ⟨y,by simpa using h1,fun c hc => ?_⟩
    have := hr c hc
    rw [show (x.k == k) = false by simpa using hx,if_neg (by decide)] at this
    exact es (this.trans (h2 c hc))
 obtain ⟨y,h1,h2⟩ := loop n.nodes 0 rfl
 have h1' : firstK k 0 n.nodes = y.getD (-1) := h1
 rw [h1']
 exact es (rfirst_f hN oF h2)
theorem rtwo_ev {n : Nt} {N F : D} (h : IsN n N F) (hsz : n.flows.length <= 1000000) (f : Fl) {op m : Int} {K : D} (hT : IsT f.c op m K) (hz : sizeT f.c <= 1000000) (bx : List Box) :
  ev cfg (.call 38 [Nq N F,.agg [I f.fr,I f.to,B f.els,I op,I m,.dat K]] bx) = Rq (B (leadsN ofT n f)) := by
 have hh := h
 obtain ⟨oN,oF⟩ := isN_one h
 obtain ⟨nr,fr,hN,hnr,_⟩ := h
 have hlen : nr.length = n.nodes.length := hnr.1
 by_cases hb : (decide (f.fr < 0) || (decide (f.fr >= (nr.length : Int)) || (decide (f.to < 0) || (decide (f.to >= (nr.length : Int)) || f.fr == f.to)))) = true
 ·rw [es (rtwo_bad hN oF (isT_one hT) hb)]
  simp only [Bool.or_eq_true,dqE,beq_iff_eq] at hb
  have : (inN n f.fr && inN n f.to && (f.fr != f.to)) = false := by
   rw [Bool.eq_false_iff]
   intro hc
   simp only [inN,Bool.and_eq_true,dqE,bne_iff_ne,ne_eq] at hc
   omega
  rw [leadsN,this,Bool.false_and]
 ·simp only [Bool.or_eq_true,not_or,Bool.not_eq_true] at hb
  obtain ⟨b1,b2,b3,b4,b5⟩ := hb
  have c1 : ¬ f.fr < 0 := by simpa using b1
  have c2 : ¬ f.fr >= (nr.length : Int) := by simpa using b2
  have c3 : ¬ f.to < 0 := by simpa using b3
  have c4 : ¬ f.to >= (nr.length : Int) := by simpa using b4
  have c5 : f.fr ≠ f.to := by simpa using b5
  have hin : (inN n f.fr && inN n f.to && (f.fr != f.to)) = true := by
   simp only [inN,Bool.and_eq_true,dqE,bne_iff_ne,ne_eq]
   omega
  obtain ⟨p,hp⟩ : ∃ p : Nat,f.fr = p := ⟨f.fr.toNat,by omega⟩
  have hpl : p < n.nodes.length := by omega
  obtain ⟨row,hrow,_,_,op2,m2,K2,rfl,hT2⟩ := hnr.get hpl
  have hkind : kindN n f.fr = n.nodes[p].k := by rw [hp]; exact kind_at hpl
  have hn := fun bx : List Box => rnone_ev f.c hT bx
  have ho := fun bx : List Box => rof_ev f.c hT hz 2 bx
  rw [leadsN,hin,Bool.true_and,hkind]
  rw [hp] at b1 b2 b5 ⊢
  by_cases h5 : n.nodes[p].k = 5
  ·rw [h5] at hrow ⊢
   rw [es (rtwo_5 (e := f.els) hN oF (isT_one hT) hrow b1 b2 b3 b4 b5 (mkD_is _ _) (fun bx => routs_ev hh hsz p bx) hn ho),natR_len]
   by_cases hg : ((outsN n p).length : Int) >= 2
   ·rw [if_pos hg,if_neg (show ¬ ((5 : Int) ≠ 5 ∨ (outsN n p).length < 2) by omega)]
   ·rw [if_neg hg,if_pos (show (5 : Int) ≠ 5 ∨ (outsN n p).length < 2 by omega)]
  ·rw [es (rtwo_o (v2 := false) (e := f.els) hN oF (isT_one hT) hrow b1 b2 b3 b4 b5 (by simpa using h5) hn),if_pos (.inl h5)]
theorem rthree_ev {n : Nt} {N F : D} (h : IsN n N F) (hsz : n.flows.length <= 1000000) (hE : Ends n) {p : Nat} (hp : p < n.nodes.length) (bx : List Box) :
  ev cfg (.call 40 [Nq N F,I p] bx) = Rq (B (linkedN n p)) := by
 have hO := fun bx : List Box => routs_ev h hsz p bx
 have hI := fun bx : List Box => rins_ev h hsz p bx
 have hol : (outsN n p).length <= 1000000 := Nat.le_trans (idxs_len _ _ _) hsz
 obtain ⟨o1,o2⟩ := isN_one h
 obtain ⟨nr,fr,hN,hnr,_,hF,hfr,_⟩ := h
 obtain ⟨row,hrow,_,_,op2,m2,K2,rfl,hT2⟩ := hnr.get hp
 have hX := mkD_is 1 (natR (outsN n p))
 have hXl : (natR (outsN n p)).length = (outsN n p).length := natR_len _
 have loop : ∀ (os : List Nat) (i el ot : Nat),(outsN n p).drop i = os -> el <= i -> ot <= i →
   ev cfg (.loop 40 7 (qs bx (sh40_7 (I p) (P0 bx) (I (natR (insN n p)).length) (I (natR (outsN n p)).length) (I el) (I ot) (.dat (mkD 1 (natR (outsN n p)))) (I (natR (outsN n p)).length) (I i)) [Nb N F])) =
   some (.loop (.exit 0) (qs bx (se40_7 (I p) (P0 bx) (I (natR (insN n p)).length) (I (natR (outsN n p)).length) (I ((el + (os.filter (elsN n)).length : Nat) : Int)) (I ((ot + (os.filter fun f => kindN n (toN n f) != 8).length : Nat) : Int))) [Nb N F])) := by
  intro os
  induction os with
  | nil =>
   intro i el ot hd _ _
   rw [List.filter_nil,List.length_nil,Nat.add_zero,List.filter_nil,List.length_nil,Nat.add_zero]
   exact es (rthree_end o1 o2 (mkD_one _ _) (by rw [hXl]; exact drop_nil hd))
  | cons o os ih =>
   intro i el ot hd hel hot
   obtain ⟨hget,hd',hlt⟩ := drop_cons hd
   have hol2 : o < n.flows.length := outs_lt (mog hget)
   obtain ⟨row,hfrow,_,_,op,m,K,rfl,hT⟩ := hfr.get hol2
   have hends := hE n.flows[o] (List.getElem_mem hol2)
   obtain ⟨q,hq⟩ : ∃ q : Nat,n.flows[o].to = q := ⟨n.flows[o].to.toNat,by omega⟩
   have hql : q < n.nodes.length := by omega
   obtain ⟨row,hnrow,_,_,op3,m3,K3,rfl,hT3⟩ := hnr.get hql
   rw [hq] at hfrow
   have hXget : (natR (outsN n p))[i]? = some [dI (o : Int)] := by simp [natR,hget]
   have hr := rthree_round (bx := bx) (p := p) (irs := natR (insN n p)) (el := (el : Int)) (ot := (ot : Int)) hN hF hX hXget hfrow hnrow (by rw [hXl]; exact hlt) (by rw [hXl]; omega) (wrap_lo (by omega) (by omega)) (wrap_lo (by omega) (by omega))
   have hk8 : (n.nodes[q].k != 8) = (kindN n (toN n o) != 8) := by rw [to_at hol2,hq,kind_at hql]
   have hel' : (if n.flows[o].els = true then (el : Int) + 1 else el) = ((if elsN n o = true then el + 1 else el : Nat) : Int) := by
    rw [els_at hol2]; split <;> simp
   have hot' : (if (n.nodes[q].k != 8) = true then (ot : Int) + 1 else ot) = ((if (kindN n (toN n o) != 8) = true then ot + 1 else ot : Nat) : Int) := by
    rw [hk8]; split <;> simp
   rw [hel',hot'] at hr
   have e1 : el + ((o :: os).filter (elsN n)).length = (if elsN n o = true then el + 1 else el) + (os.filter (elsN n)).length := by
    rw [List.filter_cons]; split <;> simp <;> omega
   have e2 : ot + ((o :: os).filter fun f => kindN n (toN n f) != 8).length = (if (kindN n (toN n o) != 8) = true then ot + 1 else ot) + (os.filter fun f => kindN n (toN n f) != 8).length := by
    rw [List.filter_cons]; split <;> simp <;> omega
   rw [e1,e2]
   exact es (hr.trans (ih (i + 1) (if elsN n o = true then el + 1 else el) (if (kindN n (toN n o) != 8) = true then ot + 1 else ot) hd' (by split <;> omega) (by split <;> omega)))
 have hl0 := loop (outsN n p) 0 0 0 rfl (Nat.le_refl _) (Nat.le_refl _)
 have hk : kindN n p = n.nodes[p].k := kind_at hp
 have hY := mkD_is 1 (natR (insN n p))
 have hYl : (natR (insN n p)).length = (insN n p).length := natR_len _
 have g0 : ∀ m : Nat,((m : Int) == 0) = (m == 0) := fun m => beq_nat m 0
 have g1 : ∀ m : Nat,((m : Int) == 1) = (m == 1) := fun m => beq_nat m 1
 have gg : ∀ m : Nat,decide ((m : Int) >= 2) = decide (1 < m) := fun m => decide_eq_decide.2 (by omega)
 have ga : (((outsN n p).filter fun f => kindN n (toN n f) != 8).length == 0) = (outsN n p).all fun f => kindN n (toN n f) == 8 := by
  rw [Bool.eq_iff_iff,beq_iff_eq,List.all_eq_true,List.length_eq_zero_iff,List.filter_eq_nil_iff]
  exact forall_congr' fun f => forall_congr' fun _ => by simp
 rw [linkedN]
 simp only [hk]
 generalize n.nodes[p].k = k at hrow
 simp only [Nat.zero_add] at hl0
 by_cases k1 : k = 1
 ·subst k1
  rw [if_pos rfl,es (rthree_1 hN o2 hX hY hrow hO hI hl0),hXl,hYl,g0,g1]
 rw [if_neg k1]
 by_cases k2 : k = 2
 ·subst k2
  rw [if_pos rfl,es (rthree_2 hN o2 hX hY hrow hO hI hl0),hXl,hYl,g0,g1]
 rw [if_neg k2]
 by_cases k7 : k = 7
 ·subst k7
  rw [if_pos rfl,es (rthree_7 hN o2 hX hY hrow hO hI hl0),hXl,hYl,gg,g1,g0,ga]
 rw [if_neg k7]
 by_cases k5 : k = 5
 ·subst k5
  rw [if_pos rfl,es (rthree_5 hN o2 hX hY hrow hO hI hl0),hXl,hYl,gg,gg,g1,g1,g1,<- Bool.and_assoc]
 rw [if_neg k5]
 by_cases k6 : k = 6
 ·subst k6
  rw [if_pos rfl,es (rthree_6 hN o2 hX hY hrow hO hI hl0),hXl,hYl,gg,gg,g1,g1]
 rw [if_neg k6,es (rthree_o (by simpa using k1) (by simpa using k2) (by simpa using k5) (by simpa using k6) (by simpa using k7) hN o2 hX hY hrow hO hI hl0),hXl,hYl,g1,g1]
theorem rep_set (m p : Nat) : (List.replicate m [D.lit (.bool false)]).set p [.lit (.bool true)] = rboolR ((List.replicate m false).set p true) := by
 rw [<- rbool_set]; congr 1; simp [rboolR]
theorem rreach_ev {n : Nt} {N F : D} (h : IsN n N F) (hsz : n.nodes.length <= 1000000) (hE : Ends n) {p : Nat} (hp : p < n.nodes.length) (bx : List Box) :
  ev cfg (.call 41 [Nq N F,I p] bx) = Rq (.own true 1 (rboolR (passes n.flows n.nodes.length ((List.replicate n.nodes.length false).set p true)))) := by
 obtain ⟨o1,o2⟩ := isN_one h
 obtain ⟨nr,fr,hN,hnr,_,hF,hfr,hfm⟩ := h
 have hlen : nr.length = n.nodes.length := hnr.1
 have hflen : fr.length = n.flows.length := hfr.1
 have inner : ∀ (fs : List Fl) (i : Nat) (m l : Nat) (o : List Bool),n.flows.drop i = fs -> o.length = n.nodes.length →
   ev cfg (.loop 41 6 (qs bx (sh41_6 (P0 bx) (.own true 1 (rboolR o)) (I m) (I l) (.dat F) (I fr.length) (I i)) [Nb N F])) =
    some (.loop (.exit 2) (qs bx (se41_6 (P0 bx) (.own true 1 (rboolR (pass fs o))) (I m) (I l)) [Nb N F])) := by
  intro fs
  induction fs with
  | nil =>
   intro i m l o hd ho
   exact es (rreach_inend o2 o1 (by rw [hflen]; exact drop_nil hd))
  | cons f fs ih =>
   intro i m l o hd ho
   obtain ⟨hget,hd',hlt⟩ := drop_cons hd
   obtain ⟨row,hrow,_,_,op,mm,K,rfl,hT⟩ := hfr.2 i f hget
   have hends := hE f (mog hget)
   obtain ⟨p,hp⟩ : ∃ p : Nat,f.fr = p := ⟨f.fr.toNat,by omega⟩
   obtain ⟨q,hq⟩ : ∃ q : Nat,f.to = q := ⟨f.to.toNat,by omega⟩
   have hpl : p < o.length := by omega
   have hql : q < o.length := by omega
   rw [hp,hq] at hrow
   have hr := rreach_in (bx := bx) (m := m) (l := l) hF o1 hrow (by rw [hflen]; exact hlt) (by rw [hflen]; omega) (isT_one hT) (gge hpl) hql
   have e : (if o[p] = true then o.set q true else o) = passF o f := by
    rw [passF,hp,hq,tnc,tnc,gge hpl]
    cases o[p] <;> simp
   rw [e] at hr
   have := ih (i + 1) m l (passF o f) hd' (by rw [passF_len]; exact ho)
   exact es (hr.trans this)
 have outer : ∀ (k l : Nat) (o : List Bool),l + k = n.nodes.length -> o.length = n.nodes.length →
   ev cfg (.loop 41 4 (qs bx (sh41_4 (P0 bx) (.own true 1 (rboolR o)) (I nr.length) (I l)) [Nb N F])) =
    some (.loop (.exit 0) (qs bx (se41_4 (.own true 1 (rboolR (passes n.flows k o)))) [Nb N F])) := by
  intro k
  induction k with
  | zero =>
   intro l o hk ho
   exact es (rreach_outend o2 o1 (by omega))
  | succ k ih =>
   intro l o hk ho
   have hr := rreach_out (bx := bx) (m := nr.length) (l := l) (o := o) hF o1 (by omega) (by omega) (inner n.flows 0 nr.length l o rfl ho)
   have := ih (l + 1) (pass n.flows o) (by omega) (by rw [pass_len]; exact ho)
   exact es (hr.trans this)
 have hlo := outer n.nodes.length 0 ((List.replicate n.nodes.length false).set p true) (by omega) (by simp)
 refine es (rreach_f o2 hN (by omega) (by omega) (by rw [List.getElem?_replicate,if_pos (by omega)]) (by rw [hlen]; exact rep_set _ _) hlo)
theorem thirdW_ref {n : Nt} {i : Nat} (hi : i < n.nodes.length) : (!linkedN n i || ((n.nodes[i].k == 1 && decide ((i : Int) > startN n)) || (n.nodes[i].k == 2 && decide ((i : Int) > endN n)))) = thirdW n i := by
 rw [thirdW,kind_at hi]
 have go : ∀ k : Int,(n.nodes[i].k == k && decide ((i : Int) > firstK k 0 n.nodes)) = (n.nodes[i].k == k && (i : Int) != firstK k 0 n.nodes) := fun k => by
  by_cases hk : n.nodes[i].k = k
  ·have := firstK_le k n.nodes 0 i n.nodes[i] (gge hi) hk (by omega)
   rw [show (n.nodes[i].k == k) = true by simpa using hk,Bool.true_and,Bool.true_and,Bool.eq_iff_iff,dqE,bne_iff_ne]
   omega
  ·rw [show (n.nodes[i].k == k) = false by simpa using hk,Bool.false_and,Bool.false_and]
 rw [startN,endN,go 1,go 2]
theorem rncheck_ev {n : Nt} {N F : D} (h : IsN n N F) (hfl : n.flows.length <= 1000) (hnd : n.nodes.length <= 1000) (hz : ∀ t ∈ termsN n,sizeT t <= 1000000) :
  ∃ r q : Int,(r = 0 ↔ OkN n) /\ Cq 18 [Nq N F] (.agg [I r,I q]) := by
 obtain ⟨o1,o2⟩ := isN_one h
 have h0 := h
 obtain ⟨nr,fr,hN,hnr,_,hF,hfr,_⟩ := h
 have hlen : nr.length = n.nodes.length := hnr.1
 have hflen : fr.length = n.flows.length := hfr.1
 by_cases hb : (decide ((nr.length : Int) > 24) || decide ((fr.length : Int) > 40)) = true
 ·refine ⟨1,0,⟨fun e => (by cases e),fun e => ?_⟩,fun bx => es (rcheck_big hN hF hb)⟩
  simp only [Bool.or_eq_true,dqE] at hb
  obtain ⟨e1,e2,_⟩ := e
  omega
 have hb' := hb
 simp only [Bool.not_eq_true,Bool.or_eq_false_iff] at hb'
 obtain ⟨c1,c2⟩ := hb'
 have hn24 : n.nodes.length <= 24 /\ n.flows.length <= 40 := by
  simp only [decide_eq_false_iff_not] at c1 c2; omega
 have loop4 : ∀ (xs : List Nd) (i : Nat),n.nodes.drop i = xs -> (∃ q : Int,¬ (∀ x ∈ xs,rightN ofT x = true) /\ ∀ bx : List Box,ev cfg (.loop 18 4 (qs bx (sh18_4 (P0 bx) (P1 bx) (.dat N) (I nr.length) (I i)) [Nb N F,[I 0,I 0]])) = some (.loop .ret (qs bx (se18_4 (P0 bx) (P1 bx)) [Nb N F,[I 1,I q]]))) ∨
   ((∀ x ∈ xs,rightN ofT x = true) /\ ∀ bx : List Box,ev cfg (.loop 18 4 (qs bx (sh18_4 (P0 bx) (P1 bx) (.dat N) (I nr.length) (I i)) [Nb N F,[I 0,I 0]])) = some (.loop (.exit 0) (qs bx (se18_4 (P0 bx) (P1 bx)) [Nb N F,[I 0,I 0]]))) := by
  intro xs
  induction xs with
  | nil => exact fun i hd => .inr ⟨(fun x hx => by cases hx),fun bx => es (rc4e o1 o2 (by rw [hlen]; exact drop_nil hd))⟩
  | cons x xs ih =>
   intro i hd
   obtain ⟨hget,hd',hlt⟩ := drop_cons hd
   obtain ⟨row,hrow,_,_,op,m,K,rfl,hT⟩ := hnr.2 i x hget
   have hm : x.t ∈ termsN n := List.mem_append_left _ (List.mem_map.2 ⟨_,mog hget,rfl⟩)
   have hr := fun bx : List Box => rc4 (bx := bx) hN o2 hrow (by rw [hlen]; exact hlt) (by omega) (isT_one hT) fun bx => rone_ev x hT (hz _ hm) bx
   cases hv : rightN ofT x with
   | false =>
    simp only [hv,Bool.not_false,if_true] at hr
    exact .inl ⟨i,(fun hall => by have := hall x (mcs ..); rw [hv] at this; cases this),fun bx => es (hr bx)⟩
   | true =>
    simp only [hv,Bool.not_true,Bool.false_eq_true,if_false] at hr
    rcases ih (i + 1) hd' with ⟨q,h1,h2⟩ | ⟨h1,h2⟩
    ·exact .inl ⟨q,fun hall => h1 fun y hy => hall y (mcm _ hy),fun bx => es ((hr bx).trans (h2 bx))⟩
    ·exact .inr ⟨fun y hy => by rcases List.mem_cons.1 hy with rfl | hy; exact hv; exact h1 y hy,fun bx => es ((hr bx).trans (h2 bx))⟩
 rcases loop4 n.nodes 0 rfl with ⟨q,k1,hl4⟩ | ⟨k1,hl4⟩
 ·exact ⟨1,q,⟨fun e => (by cases e),fun e => absurd e.2.2.1 k1⟩,fun bx => es (rcheck_1 hN hF c1 c2 (hl4 bx))⟩
 have loop10 : ∀ (xs : List Fl) (i : Nat),n.flows.drop i = xs -> (∃ q : Int,¬ (∀ x ∈ xs,leadsN ofT n x = true) /\ ∀ bx : List Box,ev cfg (.loop 18 10 (qs bx (sh18_10 (P0 bx) (P1 bx) (.dat F) (I fr.length) (I i)) [Nb N F,[I 0,I 0]])) = some (.loop .ret (qs bx (se18_10 (P0 bx) (P1 bx)) [Nb N F,[I 2,I q]]))) ∨
   ((∀ x ∈ xs,leadsN ofT n x = true) /\ ∀ bx : List Box,ev cfg (.loop 18 10 (qs bx (sh18_10 (P0 bx) (P1 bx) (.dat F) (I fr.length) (I i)) [Nb N F,[I 0,I 0]])) = some (.loop (.exit 2) (qs bx (se18_10 (P0 bx) (P1 bx)) [Nb N F,[I 0,I 0]]))) := by
  intro xs
  induction xs with
  | nil => exact fun i hd => .inr ⟨(fun x hx => by cases hx),fun bx => es (rc10e o1 o2 (by rw [hflen]; exact drop_nil hd))⟩
  | cons x xs ih =>
   intro i hd
   obtain ⟨hget,hd',hlt⟩ := drop_cons hd
   obtain ⟨row,hrow,_,_,op,m,K,rfl,hT⟩ := hfr.2 i x hget
   have hm : x.c ∈ termsN n := List.mem_append_right _ (List.mem_map.2 ⟨_,mog hget,rfl⟩)
   have hr := fun bx : List Box => rc10 (bx := bx) o1 hF hrow (by rw [hflen]; exact hlt) (by omega) (isT_one hT) fun bx => rtwo_ev h0 (by omega) x hT (hz _ hm) bx
   cases hv : leadsN ofT n x with
   | false =>
    simp only [hv,Bool.not_false,if_true] at hr
    exact .inl ⟨i,(fun hall => by have := hall x (mcs ..); rw [hv] at this; cases this),fun bx => es (hr bx)⟩
   | true =>
    simp only [hv,Bool.not_true,Bool.false_eq_true,if_false] at hr
    rcases ih (i + 1) hd' with ⟨q,h1,h2⟩ | ⟨h1,h2⟩
    ·exact .inl ⟨q,fun hall => h1 fun y hy => hall y (mcm _ hy),fun bx => es ((hr bx).trans (h2 bx))⟩
    ·exact .inr ⟨fun y hy => by rcases List.mem_cons.1 hy with rfl | hy; exact hv; exact h1 y hy,fun bx => es ((hr bx).trans (h2 bx))⟩
 rcases loop10 n.flows 0 rfl with ⟨q,k2,hl10⟩ | ⟨k2,hl10⟩
 ·exact ⟨2,q,⟨fun e => (by cases e),fun e => absurd e.2.2.2.1 k2⟩,fun bx => es (rcheck_2 hN hF c1 c2 (hl4 bx) (hl10 bx))⟩
 have hEnds := leads_ends k2
 have hs := fun bx : List Box => rfirst_ev h0 1 bx
 have hzz := fun bx : List Box => rfirst_ev h0 2 bx
 have loop18 : ∀ (k i : Nat),i + k = n.nodes.length -> (∃ q : Int,¬ (∀ j,i <= j -> j < n.nodes.length -> thirdW n j = false) /\ ∀ bx : List Box,ev cfg (.loop 18 18 (qs bx (sh18_18 (P0 bx) (P1 bx) (I (startN n)) (I (endN n)) (.dat N) (I nr.length) (I i)) [Nb N F,[I 0,I 0]])) = some (.loop .ret (qs bx (se18_18 (P0 bx) (P1 bx) (I (startN n)) (I (endN n))) [Nb N F,[I 3,I q]]))) ∨
   ((∀ j,i <= j -> j < n.nodes.length -> thirdW n j = false) /\ ∀ bx : List Box,ev cfg (.loop 18 18 (qs bx (sh18_18 (P0 bx) (P1 bx) (I (startN n)) (I (endN n)) (.dat N) (I nr.length) (I i)) [Nb N F,[I 0,I 0]])) = some (.loop (.exit 4) (qs bx (se18_18 (P0 bx) (P1 bx) (I (startN n)) (I (endN n))) [Nb N F,[I 0,I 0]]))) := by
  intro k
  induction k with
  | zero => exact fun i hk => .inr ⟨fun j h1 h2 => by omega,fun bx => es (rc18e o1 o2 (by omega))⟩
  | succ k ih =>
   intro i hk
   have hi : i < n.nodes.length := by omega
   obtain ⟨row,hrow,_,_,op,m,K,rfl,hT⟩ := hnr.get hi
   have hr := fun bx : List Box => rc18 (bx := bx) (s := startN n) (z := endN n) hN o2 hrow (by omega) (by omega) (isT_one hT) fun bx => rthree_ev h0 (by omega) hEnds hi bx
   rw [thirdW_ref hi] at hr
   cases hv : thirdW n i with
   | true =>
    simp only [hv,if_true] at hr
    exact .inl ⟨i,(fun hall => by have := hall i (Nat.le_refl _) hi; rw [hv] at this; cases this),fun bx => es (hr bx)⟩
   | false =>
    simp only [hv,Bool.false_eq_true,if_false] at hr
    rcases ih (i + 1) (by omega) with ⟨q,h1,h2⟩ | ⟨h1,h2⟩
    ·exact .inl ⟨q,fun hall => h1 fun j hj hj2 => hall j (by omega) hj2,fun bx => es ((hr bx).trans (h2 bx))⟩
    ·refine .inr ⟨fun j hj hj2 => ?_,fun bx => es ((hr bx).trans (h2 bx))⟩
     by_cases e : j = i
     ·subst e; exact hv
     ·exact h1 j (by omega) hj2
 rcases loop18 n.nodes.length 0 (by omega) with ⟨q,k3,hl18⟩ | ⟨k3,hl18⟩
 ·exact ⟨3,q,⟨fun e => (by cases e),fun e => absurd (fun j _ h2 => e.2.2.2.2.1 j h2) k3⟩,fun bx => es (rcheck_3 hN hF c1 c2 (hl4 bx) (hl10 bx) hs hzz (hl18 bx))⟩
 by_cases hsz : (decide (startN n < 0) || decide (endN n < 0)) = true
 ·refine ⟨3,nr.length,⟨fun e => (by cases e),fun e => ?_⟩,fun bx => es (rcheck_3b hN hF c1 c2 (hl4 bx) (hl10 bx) hs hzz (hl18 bx) hsz)⟩
  simp only [Bool.or_eq_true,dqE] at hsz
  have := e.2.2.2.2.2.1
  have := e.2.2.2.2.2.2.1
  omega
 have hsz' := hsz
 simp only [Bool.not_eq_true,Bool.or_eq_false_iff] at hsz'
 obtain ⟨d1,d2⟩ := hsz'
 have hs0 : 0 <= startN n := by simpa using d1
 have he0 : 0 <= endN n := by simpa using d2
 obtain ⟨sp,hsp⟩ : ∃ sp : Nat,startN n = sp := ⟨(startN n).toNat,by omega⟩
 obtain ⟨zp,hzp⟩ : ∃ zp : Nat,endN n = zp := ⟨(endN n).toNat,by omega⟩
 have hsl : sp < n.nodes.length := by have := firstK_ge 1 n.nodes 0; rw [startN] at hsp hs0; omega
 have hzl : zp < n.nodes.length := by have := firstK_ge 2 n.nodes 0; rw [endN] at hzp he0; omega
 have hrs := fun bx : List Box => rreach_ev h0 (by omega) hEnds hsl bx
 have plen : ∀ (k : Nat) (o : List Bool),(passes n.flows k o).length = o.length := by
  intro k
  induction k with
  | zero => intro o; rfl
  | succ k ih => intro o; rw [passes,ih,pass_len]
 have rlen : ∀ p,(passes n.flows n.nodes.length ((List.replicate n.nodes.length false).set p true)).length = n.nodes.length := fun p => by rw [plen]; simp
 have rch : ∀ {p : Nat},p < n.nodes.length -> ∀ i : Nat,(hi : i < n.nodes.length) -> ((passes n.flows n.nodes.length ((List.replicate n.nodes.length false).set p true))[i]'(by rw [rlen]; exact hi) = true ↔ Rch (Edge n) p i) := fun {p} hp i hi => by
  rw [<- reach_iff p hp hEnds i,gge (by rw [rlen]; exact hi)]
  simp
 have flip : ∀ {a b : Int},Rch (EdgeB n true) a b ↔ Rch (Edge n) b a := fun {a b} =>
  ⟨fun hh => Rch.flip (e := fun x y => Edge n y x) hh,fun hh => Rch.flip hh⟩
 have good : ∀ i : Nat,i < n.nodes.length -> ((Rch (EdgeB n false) (startN n) i /\ Rch (EdgeB n true) (endN n) i) ↔ (Rch (Edge n) sp i /\ Rch (Edge n) i zp)) := fun i hi => by
  rw [flip,hsp,hzp]; exact Iff.rfl
 have loop27 : ∀ (k i : Nat),i + k = n.nodes.length -> (∃ q : Int,¬ (∀ j : Nat,i <= j -> j < n.nodes.length -> Rch (Edge n) sp j /\ Rch (Edge n) j zp) /\ ∀ bx : List Box,ev cfg (.loop 18 27 (qs bx (sh18_27 (P0 bx) (P1 bx) (I (endN n)) (.own true 1 (rboolR (passes n.flows n.nodes.length ((List.replicate n.nodes.length false).set sp true)))) (I nr.length) (I i)) [Nb N F,[I 0,I 0]])) = some (.loop .ret (qs bx (se18_27 (P1 bx)) [Nb N F,[I 4,I q]]))) ∨
   ((∀ j : Nat,i <= j -> j < n.nodes.length -> Rch (Edge n) sp j /\ Rch (Edge n) j zp) /\ ∀ bx : List Box,ev cfg (.loop 18 27 (qs bx (sh18_27 (P0 bx) (P1 bx) (I (endN n)) (.own true 1 (rboolR (passes n.flows n.nodes.length ((List.replicate n.nodes.length false).set sp true)))) (I nr.length) (I i)) [Nb N F,[I 0,I 0]])) = some (.loop (.exit 6) (qs bx (se18_27 (P1 bx)) [Nb N F,[I 0,I 0]]))) := by
  intro k
  induction k with
  | zero => exact fun i hk => .inr ⟨fun j h1 h2 => by omega,fun bx => es (rc27e o1 o2 (by omega))⟩
  | succ k ih =>
   intro i hk
   have hi : i < n.nodes.length := by omega
   have hr := fun bx : List Box => rc27 (bx := bx) (nr := nr) (z := endN n) (p := zp) o1 o2 (by omega) (by omega) hzp (gge (by rw [rlen sp]; exact hi)) (gge (by rw [rlen i]; exact hzl)) fun bx => rreach_ev h0 (by omega) hEnds hi bx
   have q1 := rch hsl i hi
   have q2 := rch hi zp hzl
   by_cases hgood : Rch (Edge n) sp i /\ Rch (Edge n) i zp
   ·rw [q1.2 hgood.1,q2.2 hgood.2] at hr
    simp only [Bool.not_true,Bool.or_self,Bool.false_eq_true,if_false] at hr
    rcases ih (i + 1) (by omega) with ⟨q,h1,h2⟩ | ⟨h1,h2⟩
    ·exact .inl ⟨q,fun hall => h1 fun j hj hj2 => hall j (by omega) hj2,fun bx => es ((hr bx).trans (h2 bx))⟩
    ·refine .inr ⟨fun j hj hj2 => ?_,fun bx => es ((hr bx).trans (h2 bx))⟩
     by_cases e : j = i
     ·subst e; exact hgood
     ·exact h1 j (by omega) hj2
   ·refine .inl ⟨i,fun hall => hgood (hall i (Nat.le_refl _) hi),fun bx => ?_⟩
    have hb : (!(passes n.flows n.nodes.length ((List.replicate n.nodes.length false).set sp true))[i]'(by rw [rlen]; exact hi) || !(passes n.flows n.nodes.length ((List.replicate n.nodes.length false).set i true))[zp]'(by rw [rlen]; exact hzl)) = true := by
     rw [<- q1,<- q2] at hgood
     revert hgood
     generalize (passes n.flows n.nodes.length ((List.replicate n.nodes.length false).set sp true))[i]'(by rw [rlen]; exact hi) = x
     generalize (passes n.flows n.nodes.length ((List.replicate n.nodes.length false).set i true))[zp]'(by rw [rlen]; exact hzl) = y
     cases x <;> cases y <;> simp
    have := hr bx
    rw [if_pos hb] at this
    exact es this
 have hrs' : Cq 41 [Nq N F,I (startN n)] (.own true 1 (rboolR (passes n.flows n.nodes.length ((List.replicate n.nodes.length false).set sp true)))) := fun bx => by rw [hsp]; exact hrs bx
 rcases loop27 n.nodes.length 0 (by omega) with ⟨q,k4,hl27⟩ | ⟨k4,hl27⟩
 ·refine ⟨4,q,⟨fun e => (by cases e),fun e => absurd (fun j _ h2 => (good j h2).1 (e.2.2.2.2.2.2.2 j h2)) k4⟩,fun bx => es (rcheck_4 hN hF c1 c2 (hl4 bx) (hl10 bx) hs hzz (hl18 bx) d1 d2 hrs' (hl27 bx))⟩
 ·exact ⟨0,0,⟨fun _ => ⟨hn24.1,hn24.2,k1,k2,fun j hj => k3 j (Nat.zero_le _) hj,hs0,he0,fun j hj => (good j hj).2 (k4 j (Nat.zero_le _) hj)⟩,fun _ => rfl⟩,fun bx => es (rcheck_0 hN hF c1 c2 (hl4 bx) (hl10 bx) hs hzz (hl18 bx) d1 d2 hrs' (hl27 bx))⟩
theorem idxs_filter {α : Type} (p : α -> Bool) : ∀ (xs : List α) (k : Nat),(idxs p k xs).length = (xs.filter p).length
 | [],k => rfl
 | x :: xs,k => by
  rw [idxs,List.filter_cons]
  split <;> simp [idxs_filter p xs]
theorem deep_le {k n a : Int} {ks : List Blk} {ls : List Lk} {M : Int} : deepB (.mk k n a ks ls) <= M + 1 ↔ 0 <= M /\ ∀ b ∈ ks,deepB b <= M := by
 have go : ∀ (ks : List Blk) (m : Int),deepB.go m ks <= M ↔ m <= M /\ ∀ b ∈ ks,deepB b <= M := by
  intro ks
  induction ks with
  | nil => intro m; rw [deepB.go]; simp
  | cons b bs ih =>
   intro m
   rw [deepB.go,ih]
   simp only [List.mem_cons,forall_eq_or_imp]
   split <;> constructor <;> rintro h
   ·exact ⟨by omega,h.1,h.2⟩
   ·exact ⟨h.2.1,h.2.2⟩
   ·exact ⟨h.1,by omega,h.2⟩
   ·exact ⟨h.1,h.2.2⟩
 rw [deepB,<- go ks 0]
 omega
theorem deep_pos (b : Blk) : 1 <= deepB b := (deepB_le b).1
theorem size_sz : ∀ b : Blk,sizeB b = (szB b : Int)
 | .mk _ _ _ ks _ => by
  rw [sizeB,szB]
  have := go ks
  omega
where
 go : ∀ ks : List Blk,sizeB.go ks = (szB.szBs ks : Int)
 | [] => by rw [sizeB.go,szB.szBs]; rfl
 | b :: bs => by
  rw [sizeB.go,szB.szBs]
  have := size_sz b
  have := go bs
  omega
theorem kB_kd (b : Blk) : kB b = b.kd := by cases b; rfl
theorem nest_mk {n : Nt} {k nd a : Int} {ks : List Blk} {ls : List Lk} : nestB n (.mk k nd a ks ls) = true ↔ rightB n k nd a ks ls = true /\ ∀ b ∈ ks,b.kd ≠ 9 /\ b.kd ≠ 10 /\ (b.kd = 8 -> k = 9) /\ nestB n b = true := by
 rw [nestB,nest_any,Bool.and_eq_true,Bool.not_eq_true',List.any_eq_false]
 refine and_congr_right fun _ => forall_congr' fun b => forall_congr' fun hb => ?_
 rw [kB_kd]
 simp only [Bool.or_eq_true,beq_iff_eq,Bool.and_eq_true,bne_iff_ne,ne_eq,Bool.not_eq_true',not_or,not_and,Decidable.not_not,Bool.not_eq_false]
structure PartN (n : Nt) (b : Blk) : Prop where
 nest : nestB n b = true
 k3 : b.kd ≠ 3
 k8 : b.kd ≠ 8
 k9 : b.kd ≠ 9
 k10 : b.kd ≠ 10
theorem parts_nest {n : Nt} {b : Blk} (h : nestB n b = true) (k8 : b.kd ≠ 8) (k9 : b.kd ≠ 9) (k10 : b.kd ≠ 10) : ∀ x ∈ partsB b,PartN n x := by
 obtain ⟨k,nd,a,ks,ls⟩ := b
 intro x hx
 rw [partsB] at hx
 split at hx
 ·rename_i h3
  subst h3
  obtain ⟨hr,hk⟩ := nest_mk.1 h
  obtain ⟨h1,h2,h4,h5⟩ := hk x hx
  refine ⟨h5,?_,fun e => absurd (h4 e) (by decide),h1,h2⟩
  rw [rightB] at hr
  simp only [headBad] at hr
  split at hr
  ·cases hr
  ·simp only [show ¬ ((3 : Int) = 1 ∨ (3 : Int) = 10) by decide,show ¬ ((3 : Int) = 2) by decide,show ¬ ((3 : Int) = 8) by decide,if_false,if_true,Bool.and_eq_true,Bool.not_eq_true',List.any_eq_false] at hr
   have := hr.2.2 x hx
   rw [kB_kd] at this
   simpa using this
 ·rename_i h3
  split at hx
  ·cases hx
  ·rw [List.mem_singleton] at hx; subst hx
   exact ⟨h,h3,k8,k9,k10⟩
theorem empty_nest (n : Nt) : nestB n emptyB = true := by
 rw [emptyB,nest_mk]
 exact ⟨rfl,fun b hb => by cases hb⟩
theorem row_nest {n : Nt} {l : List Blk} (h : ∀ x ∈ l,PartN n x) : nestB n (rowB l) = true /\ (rowB l).kd ≠ 8 /\ (rowB l).kd ≠ 9 /\ (rowB l).kd ≠ 10 := by
 match l,h with
 | [],_ => exact ⟨empty_nest n,by decide,by decide,by decide⟩
 | [b],h => have := h b mcs; exact ⟨this.nest,this.k8,this.k9,this.k10⟩
 | a :: b :: l,h =>
  have hk : (rowB (a :: b :: l)).kd = 3 := rfl
  refine ⟨?_,by rw [hk]; decide,by rw [hk]; decide,by rw [hk]; decide⟩
  rw [rowB,nest_mk]
  ·refine ⟨?_,fun x hx => ?_⟩
   ·have e : (List.any (a :: b :: l) fun b => kB b == 3) = false := by
     rw [List.any_eq_false]
     intro x hx
     rw [kB_kd]
     simpa using (h x hx).k3
    simp only [rightB,headBad,e]
    simp
    omega
   ·have := h x hx
    exact ⟨this.k9,this.k10,fun e => absurd e this.k8,this.nest⟩
  ·simp
  ·simp
theorem parts_deep {b : Blk} {M : Int} (h : deepB b <= M) : ∀ x ∈ partsB b,deepB x <= M := by
 obtain ⟨k,nd,a,ks,ls⟩ := b
 intro x hx
 rw [partsB] at hx
 split at hx
 ·have := (deep_le (M := M - 1)).1 (by rw [show M - 1 + 1 = M by omega]; exact h)
  have := this.2 x hx
  omega
 ·split at hx
  ·cases hx
  ·rw [List.mem_singleton] at hx; subst hx; exact h
theorem empty_deep : deepB emptyB = 1 := by rw [emptyB,deepB,deepB.go]; rfl
theorem row_deep {l : List Blk} {M : Int} (hM : 0 <= M) (h : ∀ x ∈ l,deepB x <= M) : deepB (rowB l) <= M + 1 := by
 match l,h with
 | [],_ => rw [show rowB [] = emptyB from rfl,empty_deep]; omega
 | [b],h => have := h b mcs; rw [show rowB [b] = b from rfl]; omega
 | a :: b :: l,h =>
  rw [show rowB (a :: b :: l) = .mk 3 0 0 (a :: b :: l) [] from rfl,deep_le]
  exact ⟨hM,h⟩
theorem drop1_deep {b : Blk} {M : Int} (hM : 1 <= M) (h : deepB b <= M) : deepB (rowB ((partsB b).drop 1)) <= M := by
 obtain ⟨k,nd,a,ks,ls⟩ := b
 rw [partsB]
 split
 ·have := (deep_le (M := M - 1)).1 (by rw [show M - 1 + 1 = M by omega]; exact h)
  have := row_deep (l := ks.drop 1) this.1 fun x hx => this.2 x (List.mem_of_mem_drop hx)
  omega
 ·split
  ·show deepB emptyB <= M
   rw [empty_deep]; exact hM
  ·show deepB emptyB <= M
   rw [empty_deep]; exact hM
structure InvL (n : Nt) (w : Wb) : Prop where
 inv : InvW n w
 nest : ∀ b ∈ w.ks,nestB n b = true
 dep : ∀ b ∈ w.ks,deepB b + w.ks.length <= 23
 fr : cntW (·.1) w.ls = 1
 to : cntW (·.2.1) w.ls = 1
theorem rank_le (gone : Nat -> Bool) : ∀ m,rank gone m <= m
 | 0 => Nat.le_refl _
 | m + 1 => by
  rw [rank]
  have := rank_le gone m
  split <;> omega
theorem rank_less {gone : Nat -> Bool} {y : Nat} (hy : gone y = true) : ∀ {m : Nat},y < m -> rank gone m < m
 | 0,h => by omega
 | m + 1,h => by
  rw [rank]
  by_cases e : y = m
  ·subst e
   rw [if_pos hy]
   have := rank_le gone y
   omega
  ·have := rank_less hy (m := m) (by omega)
   split <;> omega
theorem kid_kd {n : Nt} {w : Wb} (h : InvW n w) {b : Blk} (hb : b ∈ w.ks) : b.kd ≠ 1 /\ b.kd ≠ 9 /\ b.kd ≠ 10 := by
 obtain ⟨i,hi⟩ := List.getElem?_of_mem hb
 exact (h.kid i b hi).ne
theorem renum_neg_iff {gone : Nat -> Bool} {x : Int} : decide (renum gone x < 0) = decide (x < 0) := by
 rw [Bool.eq_iff_iff,decide_eq_true_iff,decide_eq_true_iff,renum]
 split <;> omega
theorem shp_L {n : Nt} {w x : Wb} {s : Nat} {B : Blk} {gone : List Int} {cut : List Nat} {p : Nat} {L : List Nat} (h : InvL n w) (hx : InvW n x) (S : Shp w x s B gone cut p L) (hL : L ≠ []) (hB : nestB n B = true)
  (hd : ∀ M,1 <= M -> (∀ b ∈ w.ks,deepB b <= M) -> deepB B <= M + 1) : InvL n x /\ x.ks.length < w.ks.length := by
 have hlen : x.ks.length < w.ks.length := by
  obtain ⟨y,hy⟩ := List.exists_mem_of_ne_nil L hL
  have h1 := dropK_len (gone := inL gone) (bs := w.ks.set s B) (i := 0)
  have h2 := rank_less ((S.Lg y).2 hy) (S.Ll y hy)
  rw [S.eq]
  show (dropK (inL gone) 0 (w.ks.set s B)).length < _
  simp only [rank,Nat.zero_add,lls,Nat.add_zero] at h1
  omega
 have hmem : ∀ b ∈ x.ks,b = B ∨ b ∈ w.ks := by
  intro b hb
  obtain ⟨i,hi⟩ := List.getElem?_of_mem hb
  rw [S.eq] at hi
  obtain ⟨y,_,h2,_⟩ := dropK_get hi
  exact (List.mem_or_eq_of_mem_set (mog h2)).symm
 have hcnt : ∀ (g : Lk -> Int),(∀ l : Lk,decide (g (renum (inL gone) l.1,renum (inL gone) l.2.1,l.2.2) < 0) = decide (g l < 0)) -> (∀ k ∈ cut,0 <= g (lkW w.ls k)) -> (g ((s : Int),(lkW w.ls p).2) < 0 ↔ g (lkW w.ls p) < 0) -> cntW g x.ls = cntW g w.ls := by
  intro g h1 h2 h3
  unfold cntW
  rw [<- idxs_filter _ _ 0,<- idxs_filter _ _ 0,S.eq]
  show (idxs _ 0 (dropL (inL gone) cut.contains 0 (setFrom w.ls p s))).length = _
  rw [dropL_cnt (fun l => decide (g l < 0)) (fun l => decide (g l < 0)) fun k l _ _ => h1 l]
  refine same_len (nodup_filter _ (idxs_nodup _ _ _)) (idxs_nodup _ _ _) fun k => ?_
  rw [List.mem_filter,mem_idxs,mem_idxs]
  simp only [Nat.zero_le,true_and,Nat.sub_zero,Bool.not_eq_true',List.contains_eq_mem,decide_eq_false_iff_not,dqE]
  constructor
  ·rintro ⟨⟨l,h4,h5⟩,h6⟩
   rcases (mem_setFrom S.pl).1 h4 with ⟨rfl,rfl⟩ | ⟨h7,h8⟩
   ·exact ⟨_,lk_of S.pl,h3.1 h5⟩
   ·exact ⟨l,h8,h5⟩
  ·rintro ⟨l,h4,h5⟩
   refine ⟨?_,fun hc => ?_⟩
   ·by_cases e : k = p
    ·subst e
     exact ⟨_,(mem_setFrom S.pl).2 (.inl ⟨rfl,rfl⟩),h3.2 (by rw [lk_get h4]; exact h5)⟩
    ·exact ⟨l,(mem_setFrom S.pl).2 (.inr ⟨e,h4⟩),h5⟩
   ·have := h2 k hc
    rw [lk_get h4] at this
    omega
 have hk0 : 0 < w.ks.length := by omega
 refine ⟨⟨hx,fun b hb => ?_,fun b hb => ?_,?_,?_⟩,hlen⟩
 ·rcases hmem b hb with rfl | h1
  ·exact hB
  ·exact h.nest b h1
 ·rcases hmem b hb with rfl | h1
  ·have h2 := h.dep _ (List.getElem_mem hk0)
   have h3 := deep_pos (w.ks[0])
   have := hd (23 - w.ks.length) (by omega) fun c hc => by have := h.dep c hc; omega
   omega
  ·have := h.dep b h1
   omega
 ·rw [<- h.fr]
  obtain ⟨y,hy,_⟩ := S.pf
  exact hcnt (·.1) (fun l => renum_neg_iff) (fun k hk => (S.ends k hk).2.1) (by show (s : Int) < 0 ↔ _; omega)
 ·rw [<- h.to]
  exact hcnt (·.2.1) (fun l => renum_neg_iff) (fun k hk => (S.ends k hk).2.2) Iff.rfl
theorem gate_kd {w : Wb} {i : Nat} {b : Blk} (hb : w.ks[i]? = some b) (hg : gateW w.ks i = false) : b.kd ≠ 8 := by
 rw [gate_iff hb] at hg; simpa using hg
theorem one_L {n : Nt} {w x : Wb} (h : InvL n w) {a : Nat} (ha : a < w.ks.length) (hx : oneAt w a = some x) : InvL n x /\ x.ks.length < w.ks.length := by
 obtain ⟨⟨h1,_⟩,b,ka,kb,gone,cut,p,hka,hkb,_,hga,hgb,S⟩ := one_all h.inv ha hx
 have ma := mog hka
 have mb := mog hkb
 refine shp_L h h1 S (by simp) (row_nest fun y hy => ?_).1 fun M hM hd => row_deep (by omega) fun y hy => ?_
 ·rcases List.mem_append.1 hy with hy | hy
  ·exact parts_nest (h.nest _ ma) (gate_kd hka hga) (kid_kd h.inv ma).2.1 (kid_kd h.inv ma).2.2 y hy
  ·exact parts_nest (h.nest _ mb) (gate_kd hkb hgb) (kid_kd h.inv mb).2.1 (kid_kd h.inv mb).2.2 y hy
 ·rcases List.mem_append.1 hy with hy | hy
  ·exact parts_deep (hd _ ma) y hy
  ·exact parts_deep (hd _ mb) y hy
theorem part_cases {n : Nt} {w : Wb} (h : InvL n w) {q : Nat} (hq : q < w.ls.length) : partW w (followW w q) = emptyB ∨ ∃ b : Nat,w.ks[b]? = some (partW w (followW w q)) /\ gateW w.ks b = false := by
 rcases follow_cases h.inv hq with ⟨e,_⟩ | ⟨b,o,_,hbl,hg,_,_,e⟩
 ·exact .inl (by rw [e]; rfl)
 ·refine .inr ⟨b,?_,hg⟩
  rw [e,partW,kid_nat,gge hbl]; rfl
theorem part_L {n : Nt} {w : Wb} (h : InvL n w) {q : Nat} (hq : q < w.ls.length) : nestB n (partW w (followW w q)) = true /\ (partW w (followW w q)).kd ≠ 8 /\ (partW w (followW w q)).kd ≠ 9 /\ (partW w (followW w q)).kd ≠ 10 := by
 rcases part_cases h hq with e | ⟨b,hb,hg⟩
 ·rw [e]; exact ⟨empty_nest n,by decide,by decide,by decide⟩
 ·have := mog hb
  exact ⟨h.nest _ this,gate_kd hb hg,(kid_kd h.inv this).2.1,(kid_kd h.inv this).2.2⟩
theorem part_deep {n : Nt} {w : Wb} (h : InvL n w) {q : Nat} (hq : q < w.ls.length) {M : Int} (hM : 1 <= M) (hd : ∀ b ∈ w.ks,deepB b <= M) : deepB (partW w (followW w q)) <= M := by
 rcases part_cases h hq with e | ⟨b,hb,hg⟩
 ·rw [e,empty_deep]; exact hM
 ·exact hd _ (mog hb)
theorem piece_L {n : Nt} {w : Wb} (h : InvL n w) (k : Int) {q : Nat} (hq : q < w.ls.length) : nestB n (pieceW w k (followW w q)) = true /\ (pieceW w k (followW w q)).kd ≠ 8 /\ (pieceW w k (followW w q)).kd ≠ 9 /\ (pieceW w k (followW w q)).kd ≠ 10 := by
 obtain ⟨h1,h2,h3,h4⟩ := part_L h hq
 rw [pieceW]
 split
 ·exact row_nest fun y hy => parts_nest h1 h2 h3 h4 y (List.mem_of_mem_drop hy)
 ·exact ⟨h1,h2,h3,h4⟩
theorem piece_deep {n : Nt} {w : Wb} (h : InvL n w) (k : Int) {q : Nat} (hq : q < w.ls.length) {M : Int} (hM : 1 <= M) (hd : ∀ b ∈ w.ks,deepB b <= M) : deepB (pieceW w k (followW w q)) <= M := by
 rw [pieceW]
 split
 ·exact drop1_deep hM (part_deep h hq hM hd)
 ·exact part_deep h hq hM hd
theorem split_nest {n : Nt} {k nd a kd : Int} {ks : List Blk} (hk : (k = 4 /\ kd = 6) ∨ (k = 5 /\ kd = 5) ∨ (k = 6 /\ kd = 7) ∨ (k = 7 /\ kd = 5 /\ ks.length = 2)) (ha : a = 0 ∨ k = 7 /\ a = 1) (hnd : 0 <= nd /\ nd < n.nodes.length) (hkd : kindN n nd = kd) (h2 : 1 < ks.length) (ho : (outsN n nd).length = ks.length)
  (hks : ∀ b ∈ ks,nestB n b = true /\ b.kd ≠ 8 /\ b.kd ≠ 9 /\ b.kd ≠ 10) : nestB n (.mk k nd a ks []) = true := by
 rw [nest_mk]
 refine ⟨?_,fun b hb => ?_⟩
 ·have hs : splitN n nd kd ks.length = true := by
   simp only [splitN,inN,Bool.and_eq_true,dqE,beq_iff_eq]
   exact ⟨hnd,hkd,by omega,by omega⟩
  have hh : headBad k a ([] : List Lk).length = false := by
   rcases hk with ⟨rfl,rfl⟩ | ⟨rfl,rfl⟩ | ⟨rfl,rfl⟩ | ⟨rfl,rfl,hl⟩
   all_goals rcases ha with rfl | ⟨h7,rfl⟩
   all_goals first | rfl | (exact absurd h7 (by decide))
  rw [rightB,hh]
  rcases hk with ⟨rfl,rfl⟩ | ⟨rfl,rfl⟩ | ⟨rfl,rfl⟩ | ⟨rfl,rfl,hl⟩
  ·simpa using hs
  ·simpa using hs
  ·simpa using hs
  ·rw [hl] at hs; simpa [hl] using hs
 ·obtain ⟨h3,h4,h5,h6⟩ := hks b hb
  exact ⟨h5,h6,fun e => absurd e h4,h3⟩
theorem two_L {n : Nt} {w x : Wb} (hG : Gates n) (h : InvL n w) {s : Nat} (hs : s < w.ks.length) (hx : twoAt n w s = some x) : InvL n x /\ x.ks.length < w.ks.length := by
 obtain ⟨⟨h1,_⟩,j,gone,cut,p,C,S⟩ := two_all hG h.inv hs hx
 obtain ⟨bs,hbs,hgs,hbs8,hnode,hgk,hnr,hkn,hcnt⟩ := gate_ok hG h.inv C.gs
 have hko := (h.inv.kid s bs hbs).gate hbs8
 have hq : ∀ q ∈ outsW w.ls s,q < w.ls.length := fun q hm => (outsW_lt hm).1
 have hlen : ((waysW w s).map (pieceW w (gkW n w s))).length = (outsW w.ls s).length := by rw [List.length_map,waysW,List.length_map]
 refine shp_L h h1 S (by simp) ?_ fun M hM hd => ?_
 ·refine split_nest (kd := gkW n w s) ?_ (.inl rfl) (by rw [hnode]; exact hnr) (by rw [hnode,hgk]) ?_ ?_ fun b hb => ?_
  ·rw [hgk]
   rcases hkn with e | e | e <;> rw [e]
   ·exact .inr (.inl ⟨rfl,rfl⟩)
   ·exact .inl ⟨rfl,rfl⟩
   ·exact .inr (.inr (.inl ⟨rfl,rfl⟩))
  ·rw [hlen]; exact C.two
  ·rw [hlen,hnode,hko.2.2.2]
  ·rw [waysW,List.map_map] at hb
   obtain ⟨q,hqm,rfl⟩ := List.mem_map.1 hb
   exact piece_L h _ (hq q hqm)
 ·rw [deep_le]
  refine ⟨by omega,fun b hb => ?_⟩
  rw [waysW,List.map_map] at hb
  obtain ⟨q,hqm,rfl⟩ := List.mem_map.1 hb
  exact piece_deep h _ (hq q hqm) hM hd
theorem three_L {n : Nt} {w x : Wb} (hG : Gates n) (h : InvL n w) {j : Nat} (hj : j < w.ks.length) (hx : threeAt n w j = some x) : InvL n x /\ x.ks.length < w.ks.length := by
 obtain ⟨⟨h1,_⟩,B,gone,cut,p,L,s,lv,d,g,hlv,⟨q1,hq1,rfl⟩,⟨q2,hq2,rfl⟩,hsL,hgs,hos,hgj,rfl,_,S⟩ := three_all hG h.inv hj hx
 obtain ⟨bs,hbs,_,hbs8,hnode,hgk,hnr,hkn,hcnt⟩ := gate_ok hG h.inv (s := s) (by rw [hgs]; decide)
 have hko := (h.inv.kid s bs hbs).gate hbs8
 have hks : ∀ b ∈ [partW w (followW w q1),partW w (followW w q2)],∃ q,q < w.ls.length /\ b = partW w (followW w q) := by
  intro b hb
  simp only [List.mem_cons,List.not_mem_nil,or_false] at hb
  rcases hb with rfl | rfl
  ·exact ⟨q1,hq1,rfl⟩
  ·exact ⟨q2,hq2,rfl⟩
 refine shp_L h h1 S (List.ne_nil_of_mem hsL) ?_ fun M hM hd => ?_
 ·refine split_nest (kd := 5) (.inr (.inr (.inr ⟨rfl,rfl,rfl⟩))) ?_ (by rw [hnode]; exact hnr) (by rw [hnode,<- hgk,hgs]) (by simp) ?_ fun b hb => ?_
  ·rcases Nat.le_one_iff_eq_zero_or_eq_one.1 hlv with rfl | rfl
   ·exact .inl rfl
   ·exact .inr ⟨rfl,rfl⟩
  ·rw [hnode,<- hko.2.2.2,hos]; rfl
  ·obtain ⟨q,hq,rfl⟩ := hks b hb
   exact part_L h hq
 ·rw [deep_le]
  refine ⟨by omega,fun b hb => ?_⟩
  obtain ⟨q,hq,rfl⟩ := hks b hb
  exact part_deep h hq hM hd
theorem first_get {f : Nat -> Option Wb} : ∀ {m i : Nat} {x : Wb},firstAt f i m = some x -> ∃ j,i <= j /\ j < i + m /\ f j = some x
 | 0,i,x,h => by cases h
 | m + 1,i,x,h => by
  rw [firstAt] at h
  split at h
  ·rename_i y hy
   obtain rfl := sij h
   exact ⟨i,by omega,by omega,hy⟩
  ·obtain ⟨j,h1,h2,h3⟩ := first_get h
   exact ⟨j,by omega,by omega,h3⟩
theorem web_nest {n : Nt} {w : Wb} (h : InvL n w) (hk : w.ks ≠ []) : nestB n (.mk 9 0 0 w.ks w.ls) = true := by
 rw [nest_mk]
 refine ⟨?_,fun b hb => ⟨(kid_kd h.inv hb).2.1,(kid_kd h.inv hb).2.2,fun _ => rfl,h.nest b hb⟩⟩
 have hl : linkedW w.ks.length n.flows.length w.ls = true := by
  have hb : w.ls.any (badX w.ks.length n.flows.length) = false := by
   rw [List.any_eq_false]
   intro l hl
   obtain ⟨h1,h2,h3⟩ := h.inv.rng l hl
   simp only [badX,badLk,Bool.or_eq_true,dqE]
   omega
  have := h.inv.lens.2
  simp only [linkedW,hb,Bool.not_false,Bool.true_and,h.fr,h.to,Bool.and_eq_true,dqE,beq_iff_eq]
  omega
 have h0 : decide ((w.ks.length : Int) > 0) = true := by
  have := List.length_pos_iff.2 hk
  simpa using this
 have hh : headBad 9 0 w.ls.length = false := by simp [headBad]
 rw [rightB,hh]
 simp only [Bool.false_eq_true,if_false,hl,h0]
 rfl
theorem web_long {n : Nt} {w : Wb} (h : InvL n w) : longB (.mk 9 0 0 w.ks w.ls) = false := by
 have h1 : deepB (.mk 9 0 0 w.ks w.ls) <= 23 + 1 := deep_le.2 ⟨by omega,fun b hb => by have := h.dep b hb; omega⟩
 have h2 := h.inv.size
 have h3 := size_sz (.mk 9 0 0 w.ks w.ls)
 rw [szB] at h3
 rw [show szB.szBs w.ks = sizeW w.ks from rfl] at h3
 simp only [longB,Bool.or_eq_false_iff,decide_eq_false_iff_not]
 omega
theorem firstK_get (k : Int) : ∀ (xs : List Nd) (i : Int),0 <= i -> 0 <= firstK k i xs -> ∃ j : Nat,firstK k i xs = i + j /\ ∃ x,xs[j]? = some x /\ x.k = k
 | [],i,_,h => by rw [firstK] at h; exact absurd h (by decide)
 | x :: xs,i,hi,h => by
  rw [firstK] at h ⊢
  split
  ·rename_i hx
   exact ⟨0,by omega,x,rfl,by simpa using hx⟩
  ·rename_i hx
   rw [if_neg hx] at h
   obtain ⟨j,h1,y,h2,h3⟩ := firstK_get k xs (i + 1) (by omega) h
   exact ⟨j + 1,by omega,y,by simpa using h2,h3⟩
theorem ok_two {n : Nt} (h : OkN n) : ∃ s e : Nat,s < n.nodes.length /\ e < n.nodes.length /\ startN n = s /\ endN n = e /\ kindN n s = 1 /\ kindN n e = 2 /\ (∀ i : Nat,i < n.nodes.length -> kindN n i = 1 -> i = s) /\ (∀ i : Nat,i < n.nodes.length -> kindN n i = 2 -> i = e) := by
 obtain ⟨s,h1,x,h2,h3⟩ := firstK_get 1 n.nodes 0 (by omega) h.2.2.2.2.2.1
 obtain ⟨e,h4,y,h5,h6⟩ := firstK_get 2 n.nodes 0 (by omega) h.2.2.2.2.2.2.1
 have hs := (gsi.1 h2).1
 have he := (gsi.1 h5).1
 have es : startN n = s := by rw [startN,h1]; omega
 have ee : endN n = e := by rw [endN,h4]; omega
 have k1 : kindN n s = 1 := by
  rw [kind_at hs]
  rw [gge hs] at h2
  rw [sij h2]; exact h3
 have k2 : kindN n e = 2 := by
  rw [kind_at he]
  rw [gge he] at h5
  rw [sij h5]; exact h6
 refine ⟨s,e,hs,he,es,ee,k1,k2,fun i hi hk => ?_,fun i hi hk => ?_⟩
 ·have := h.2.2.2.2.1 i hi
  simp only [thirdW,Bool.or_eq_false_iff,hk,es] at this
  have := this.2.1
  simp only [beq_self_eq_true,Bool.true_and,bne_eq_false_iff_eq] at this
  omega
 ·have := h.2.2.2.2.1 i hi
  simp only [thirdW,Bool.or_eq_false_iff,hk,ee] at this
  have := this.2.2
  simp only [beq_self_eq_true,Bool.true_and,bne_eq_false_iff_eq] at this
  omega
theorem gone_iff {n : Nt} {i : Nat} (hi : i < n.nodes.length) : goneN n i = true ↔ kindN n i = 1 ∨ kindN n i = 2 := by
 rw [goneN,gge hi,kind_at hi]
 simp [isEnd]
theorem rank_two {gone : Nat -> Bool} {x y : Nat} (hx : gone x = true) (hy : gone y = true) (hxy : x < y) : ∀ {m : Nat},y < m -> rank gone m + 2 <= m
 | 0,h => by omega
 | m + 1,h => by
  rw [rank]
  by_cases e : y = m
  ·subst e
   rw [if_pos hy]
   have := rank_less hx hxy
   omega
  ·have := rank_two hx hy hxy (m := m) (by omega)
   split <;> omega
theorem begin_len {n : Nt} (h : OkN n) : (beginW n).ks.length + 2 <= n.nodes.length := by
 obtain ⟨s,e,hs,he,_,_,k1,k2,_⟩ := ok_two h
 have g1 := (gone_iff hs).2 (.inl k1)
 have g2 := (gone_iff he).2 (.inr k2)
 have hl := dropK_len (gone := goneN n) (bs := allB 0 n.nodes) (i := 0)
 simp only [rank,Nat.zero_add,Nat.add_zero,allB_len] at hl
 have hne : s ≠ e := by rintro rfl; rw [k1] at k2; cases k2
 show (dropK (goneN n) 0 (allB 0 n.nodes)).length + 2 <= _
 rw [hl]
 rcases Nat.lt_or_gt_of_ne hne with hlt | hlt
 ·exact rank_two g1 g2 hlt he
 ·exact rank_two g2 g1 hlt hs
theorem place_neg {n : Nt} {p : Nat} : decide (placeN n p < 0) = goneN n p := by
 rw [placeN]
 cases hg : goneN n p with
 | true => rw [if_pos rfl]; rfl
 | false => rw [if_neg (by simp)]; simp
theorem begin_L {n : Nt} (h : OkN n) : InvL n (beginW n) := by
 have hE := ok_ends h
 have hi := begin_inv h
 obtain ⟨s,e,hs,he,es,ee,k1,k2,u1,u2⟩ := ok_two h
 have hkid : ∀ b ∈ (beginW n).ks,∃ x nd,n.nodes[x]? = some nd /\ goneN n x = false /\ b = beginB x nd := by
  intro b hb
  obtain ⟨i,hb⟩ := List.getElem?_of_mem hb
  obtain ⟨x,_,h2,h3,h4⟩ := dropK_get hb
  rw [Nat.sub_zero] at h2
  obtain ⟨nd,h5,rfl⟩ := allB_get h2
  rw [Nat.zero_add]
  exact ⟨x,nd,h5,h3,rfl⟩
 refine ⟨hi,fun b hb => ?_,fun b hb => ?_,?_,?_⟩
 ·obtain ⟨x,nd,h5,h3,rfl⟩ := hkid b hb
  have hxl : x < n.nodes.length := (gsi.1 h5).1
  have hkd : kindN n x = nd.k := by
   rw [kind_at hxl]
   rw [gge hxl] at h5
   rw [sij h5]
  have hne : nd.k ≠ 1 /\ nd.k ≠ 2 := by
   rw [goneN,h5] at h3
   simpa [isEnd] using h3
  have hrk := right_kind (h.2.2.1 nd (mog h5))
  have hin : inN n x = true := by simp [inN,hxl]
  rw [beginB,nest_mk]
  refine ⟨?_,fun b hb => by cases hb⟩
  by_cases hg : nd.k = 5 ∨ nd.k = 6 ∨ nd.k = 7
  ·rw [if_pos hg]
   have : ([5,6,7].any fun y => kindN n x == y) = true := by
    rw [hkd]
    rcases hg with hg | hg | hg <;> rw [hg] <;> decide
   simp [rightB,headBad,hin,this]
  ·rw [if_neg hg]
   have hk3 : nd.k = 3 ∨ nd.k = 4 ∨ nd.k = 8 := by omega
   simp [rightB,headBad,hin]
   rcases hk3 with hg | hg | hg <;> simp [hkd,hg]
 ·obtain ⟨x,nd,h5,h3,rfl⟩ := hkid b hb
  have h1 := begin_len h
  have h2 := h.1
  have : deepB (beginB x nd) = 1 := by rw [beginB,deepB,deepB.go]; rfl
  omega
 ·unfold cntW
  rw [<- idxs_filter _ _ 0]
  show (idxs _ 0 (beginL n 0 n.flows)).length = 1
  rw [idxs_begin n (p := fun f => f.fr == (s : Int)) fun f hf k => ?_]
  ·have hl := ok_linked h hs
   simp only [linkedN,k1] at hl
   simp only [if_true,Bool.and_eq_true,beq_iff_eq] at hl
   exact hl.2
  ·rw [place_neg]
   obtain ⟨q,hq⟩ : ∃ q : Nat,f.fr = q := ⟨f.fr.toNat,by have := (hE f hf).1; omega⟩
   have hql : q < n.nodes.length := by have := (hE f hf).1; omega
   rw [hq,tnc,beq_nat,Bool.eq_iff_iff,gone_iff hql,beq_iff_eq]
   constructor
   ·rintro (h1 | h1)
    ·exact u1 q hql h1
    ·obtain ⟨j,hj⟩ := List.getElem?_of_mem hf
     have hl := ok_linked h hql
     simp only [linkedN,h1] at hl
     simp at hl
     have : j ∈ outsN n q := (mem_idxs _ _ _ _).2 ⟨Nat.zero_le _,f,by simpa using hj,by simp [hq]⟩
     rw [hl.2] at this
     cases this
   ·rintro rfl; exact .inl k1
 ·unfold cntW
  rw [<- idxs_filter _ _ 0]
  show (idxs _ 0 (beginL n 0 n.flows)).length = 1
  rw [idxs_begin n (p := fun f => f.to == (e : Int)) fun f hf k => ?_]
  ·have hl := ok_linked h he
   simp only [linkedN,k2] at hl
   rw [if_neg (by decide)] at hl
   simp only [if_true,Bool.and_eq_true,beq_iff_eq] at hl
   exact hl.1
  ·rw [place_neg]
   obtain ⟨q,hq⟩ : ∃ q : Nat,f.to = q := ⟨f.to.toNat,by have := (hE f hf).2; omega⟩
   have hql : q < n.nodes.length := by have := (hE f hf).2; omega
   rw [hq,tnc,beq_nat,Bool.eq_iff_iff,gone_iff hql,beq_iff_eq]
   constructor
   ·rintro (h1 | h1)
    ·obtain ⟨j,hj⟩ := List.getElem?_of_mem hf
     have hl := ok_linked h hql
     simp only [linkedN,h1] at hl
     simp at hl
     have : j ∈ insN n q := (mem_idxs _ _ _ _).2 ⟨Nat.zero_le _,f,by simpa using hj,by simp [hq]⟩
     rw [hl.1] at this
     cases this
    ·exact u2 q hql h1
   ·rintro rfl; exact .inr k2
end Go.Proofs.YtifckjhggamefaaGreatDoor
