/- What the law's 'large' answers: the whole. No condition. -/
import Derived.Test.YtifckjhggamefaaDoorAt
import Derived.Test.YtifckjhggamefaaDoorGi
import Derived.Test.YtifckjhggamefaaDoorGj
import Derived.Test.YtifckjhggamefaaDoorGb
import Derived.Test.YtifckjhggamefaaDoorGc
import Derived.Test.YtifckjhggamefaaDoorGd
set_option linter.unusedSimpArgs false
set_option linter.unusedVariables false
set_option linter.unusedSectionVars false
namespace Go.Proofs.YtifckjhggamefaaDoor
open Go Go.Vx
set_option maxHeartbeats 4000000
set_option maxRecDepth 10000
section
variable {bx : List Box} {nr fr : List (List D)} {N F : D} {r1 r2 : Bool × Int}
theorem large_big (hN : IsS 5 nr N) (hF : IsS 6 fr F) (hb : (decide ((nr.length : Int) > 30) || decide ((fr.length : Int) > 50)) = true) :
  stepJ (ev cfg) cfg (.call 5 [.agg [.dat N, .dat F]] bx) = some (.ret (B true) none) := by
 obtain ⟨w, h1, h2, h3⟩ := hN
 obtain ⟨w, g1, g2, g3⟩ := hF
 cases c1 : decide ((nr.length : Int) > 30)
 ·rw [c1, Bool.false_or] at hb
  simp (maxSteps := 2000000) only [go_sem, seval, h1, h3, g1, g3, c1, hb]
 ·simp (maxSteps := 2000000) only [go_sem, seval, h1, h3, g1, g3, c1]
theorem large_f (hN : IsS 5 nr N) (hF : IsS 6 fr F) (c1 : decide ((nr.length : Int) > 30) = false) (c2 : decide ((fr.length : Int) > 50) = false)
  (hl1 : ev cfg (.loop 5 5 (qs bx (sh5_5 (.ptr bx.length 0) (.ptr (bx.length + 1) 0) (.dat N) (I nr.length) (I 0)) [[.dat N, .dat F], [I 2000]])) =
   some (if r1.1 = true then .loop .ret (qs bx (se5_5 (.ptr bx.length 0) (B true) (.ptr (bx.length + 1) 0)) [[.dat N, .dat F], [I r1.2]]) else .loop (.exit 0) (qs bx (se5_5 (.ptr bx.length 0) .dead (.ptr (bx.length + 1) 0)) [[.dat N, .dat F], [I r1.2]])))
  (hl2 : r1.1 = false -> ev cfg (.loop 5 11 (qs bx (sh5_11 (.ptr (bx.length + 1) 0) (.dat F) (I fr.length) (I 0)) [[.dat N, .dat F], [I r1.2]])) =
   some (if r2.1 = true then .loop .ret (qs bx (se5_11 (B true)) [[.dat N, .dat F], [I r2.2]]) else .loop (.exit 2) (qs bx (se5_11 .dead) [[.dat N, .dat F], [I r2.2]]))) :
  stepJ (ev cfg) cfg (.call 5 [.agg [.dat N, .dat F]] bx) = some (.ret (B (r1.1 || r2.1)) none) := by
 obtain ⟨w, h1, h2, h3⟩ := hN
 obtain ⟨w, g1, g2, g3⟩ := hF
 cases e1 : r1.1
 ·have hl2' := hl2 e1
  rw [e1] at hl1
  cases e2 : r2.1 <;> rw [e2] at hl2' <;> simp only [if_true, if_false, Bool.false_eq_true] at hl1 hl2' <;> simp (maxSteps := 2000000) only [go_sem, seval, h1, h3, g1, g3, c1, c2, hl1, hl2']
 ·rw [e1] at hl1
  simp only [if_true] at hl1
  simp (maxSteps := 2000000) only [go_sem, seval, h1, h3, g1, g3, c1, c2, hl1]
end
def plR (rule : Int) (ks : List Nat) : List (List D) := ks.map fun (k : Nat) => [dI rule, dI ((k : Nat) : Int)]
theorem plR_app (r : Int) (xs ys : List Nat) : plR r (xs ++ ys) = plR r xs ++ plR r ys := by simp [plR]
theorem plR_len (r : Int) (xs : List Nat) : (plR r xs).length = xs.length := by simp [plR]
theorem places_ev {g : FuncId} {cap : List Nat} (rule : Int) {m : Nat} {bx : List Box} (w : Nat -> Bool) (hcap : (cap.all fun l => decide (l < bx.length)) = true) (hm : m <= 1000000)
  (hcall : ∀ i, i < m -> ev cfg (.call g (I i :: cap.map fun l => .ptr l 0) bx) = some (.ret (B (w i)) none)) :
  ev cfg (.call 45 [I rule, I m, .clo g cap] bx) = some (.ret (mkS 2 (plR rule ((List.range m).filter w))) none) := by
 have loop : ∀ (j i : Nat) (acc : List Nat), i + j = m -> acc.length <= i -> ev cfg (.loop 45 3 (q0 bx (sh45_3 (I rule) (.clo g cap) (mkS 2 (plR rule acc)) (I m) (I i)))) =
   some (.loop (.exit 0) (q0 bx (se45_3 (mkS 2 (plR rule (acc ++ (List.range' i j).filter w)))))) := by
  intro j
  induction j with
  | zero =>
   intro i acc hi ha
   rw [List.range'_zero, List.filter_nil, List.append_nil]
   exact es (places_end hcap (by omega))
  | succ j ih =>
   intro i acc hi ha
   have hc1 := hcall i (by omega)
   have e : acc ++ (List.range' i (j + 1)).filter w = (if w i = true then acc ++ [i] else acc) ++ (List.range' (i + 1) j).filter w := by
    rw [List.range'_succ, List.filter_cons]
    split <;> simp
   rw [e]
   have hacc : (if w i = true then acc ++ [i] else acc).length <= i + 1 := by split <;> (try simp) <;> omega
   refine es (Eq.trans ?_ (ih (i + 1) (if w i = true then acc ++ [i] else acc) (by omega) hacc))
   have hks : ((plR rule acc).length + 1) * 16 <= 140737488355328 := by rw [plR_len]; omega
   cases acc with
   | nil =>
    refine (places_round0 hcap (by omega) (by omega) hc1).trans ?_
    cases w i <;> rfl
   | cons a acc =>
    refine (places_round1 (rs := plR rule (a :: acc)) hcap (by omega) (by omega) hks hc1).trans ?_
    cases w i
    ·rfl
    ·simp only [if_true, plR_app]; rfl
 refine es (places_f hcap ?_)
 have := loop m 0 [] (by omega) (Nat.le_refl _)
 rw [List.nil_append, <- List.range_eq_range'] at this
 exact this
theorem outs_lt {n : Nt} {i : Int} {o : Nat} (h : o ∈ outsN n i) : o < n.flows.length := by
 obtain ⟨_, x, h1, _⟩ := (mem_idxs _ _ _ _).1 h
 exact (gsi.1 h1).1
theorem kind_at {n : Nt} {p : Nat} (h : p < n.nodes.length) : kindN n p = n.nodes[p].k := by
 rw [kindN, if_neg (by omega)]
 simp [h]
theorem to_at {n : Nt} {p : Nat} (h : p < n.flows.length) : toN n p = n.flows[p].to := by simp [toN, h]
theorem els_at {n : Nt} {p : Nat} (h : p < n.flows.length) : elsN n p = n.flows[p].els := by simp [elsN, h]
def Ends (n : Nt) : Prop := ∀ f ∈ n.flows, (0 <= f.fr /\ f.fr < n.nodes.length) /\ 0 <= f.to /\ f.to < n.nodes.length
theorem beq_nat (m k : Nat) : ((m : Int) == (k : Int)) = (m == k) := by rw [Bool.eq_iff_iff, beq_iff_eq, beq_iff_eq]; omega
theorem linked_ev {n : Nt} {N F : D} (h : IsN n N F) (hsz : n.flows.length <= 1000000) (hE : Ends n) {p : Nat} (hp : p < n.nodes.length) (bx : List Box) :
  ev cfg (.call 67 [.agg [.dat N, .dat F], I p] bx) = some (.ret (B (linkedN n p)) none) := by
 have hO := fun bx : List Box => outs_ev h hsz p bx
 have hI := fun bx : List Box => ins_ev h hsz p bx
 have hol : (outsN n p).length <= 1000000 := Nat.le_trans (idxs_len _ _ _) hsz
 obtain ⟨o1, o2⟩ := isN_one h
 obtain ⟨nr, fr, hN, hnr, _, hF, hfr, _⟩ := h
 obtain ⟨row, hrow, _, _, op2, m2, K2, rfl, hT2⟩ := hnr.get hp
 have hX := mkD_is 1 (natR (outsN n p))
 have hXl : (natR (outsN n p)).length = (outsN n p).length := natR_len _
 have loop : ∀ (ins kd : Int) (os : List Nat) (i el : Nat) (cat : Bool), (outsN n p).drop i = os -> el <= i →
   ev cfg (.loop 67 6 (qs bx (sh67_6 (.ptr bx.length 0) (.dat (mkD 1 (natR (outsN n p)))) (I ins) (I kd) (I el) (B cat) (.dat (mkD 1 (natR (outsN n p)))) (I (natR (outsN n p)).length) (I i)) [[.dat N, .dat F]])) =
   some (.loop (.exit 0) (qs bx (se67_6 (.dat (mkD 1 (natR (outsN n p)))) (I ins) (I kd) (I ((el + (os.filter (elsN n)).length : Nat) : Int)) (B (cat && os.all fun f => kindN n (toN n f) == 8))) [[.dat N, .dat F]])) := by
  intro ins kd os
  induction os with
  | nil =>
   intro i el cat hd _
   rw [List.filter_nil, List.length_nil, Nat.add_zero, List.all_nil, Bool.and_true]
   exact es (link_end o1 o2 (mkD_one _ _) (by rw [hXl]; exact drop_nil hd))
  | cons o os ih =>
   intro i el cat hd hel
   obtain ⟨hget, hd', hlt⟩ := drop_cons hd
   have hol2 : o < n.flows.length := outs_lt (mog hget)
   obtain ⟨row, hfrow, _, _, op, m, K, rfl, hT⟩ := hfr.get hol2
   have hends := hE n.flows[o] (List.getElem_mem hol2)
   obtain ⟨q, hq⟩ : ∃ q : Nat, n.flows[o].to = q := ⟨n.flows[o].to.toNat, by omega⟩
   have hql : q < n.nodes.length := by omega
   obtain ⟨row, hnrow, _, _, op3, m3, K3, rfl, hT3⟩ := hnr.get hql
   rw [hq] at hfrow
   have hXget : (natR (outsN n p))[i]? = some [dI (o : Int)] := by simp [natR, hget]
   have hr := link_round (bx := bx) (el := (el : Int)) (ins := ins) (kd := kd) (cat := cat) hN hF hX hXget hfrow hnrow (by rw [hXl]; exact hlt) (by rw [hXl]; omega) (wrap_lo (by omega) (by omega))
   have hk8 : (kindN n (toN n o) == 8) = (n.nodes[q].k == 8) := by rw [to_at hol2, hq, kind_at hql]
   have hel' : (if n.flows[o].els = true then (el : Int) + 1 else el) = ((if elsN n o = true then el + 1 else el : Nat) : Int) := by
    rw [els_at hol2]; split <;> simp
   rw [hel', <- hk8] at hr
   have e1 : el + ((o :: os).filter (elsN n)).length = (if elsN n o = true then el + 1 else el) + (os.filter (elsN n)).length := by
    rw [List.filter_cons]; split <;> simp <;> omega
   rw [e1, List.all_cons, <- Bool.and_assoc]
   exact es (hr.trans (ih (i + 1) (if elsN n o = true then el + 1 else el) (cat && kindN n (toN n o) == 8) hd' (by split <;> omega)))
 have hl := fun kd : Int => loop (natR (insN n p)).length kd (outsN n p) 0 0 true rfl (Nat.le_refl _)
 have hk : kindN n p = n.nodes[p].k := kind_at hp
 have hY := mkD_is 1 (natR (insN n p))
 have hYl : (natR (insN n p)).length = (insN n p).length := natR_len _
 have g0 : ∀ m : Nat, ((m : Int) == 0) = (m == 0) := fun m => beq_nat m 0
 have g1 : ∀ m : Nat, ((m : Int) == 1) = (m == 1) := fun m => beq_nat m 1
 have gg : ∀ m : Nat, decide ((m : Int) > 1) = decide (1 < m) := fun m => decide_eq_decide.2 (by omega)
 rw [linkedN]
 simp only [hk]
 generalize n.nodes[p].k = k at hrow
 have hl0 := hl k
 simp only [Nat.zero_add, Bool.true_and] at hl0
 by_cases k1 : k = 1
 ·subst k1
  rw [if_pos rfl, es (link_1 hN o2 hX hY hrow hO hI hl0), hXl, hYl, g0, g1]
 rw [if_neg k1]
 by_cases k2 : k = 2
 ·subst k2
  rw [if_pos rfl, es (link_2 hN o2 hX hY hrow hO hI hl0), hXl, hYl, g0, g1]
 rw [if_neg k2]
 by_cases k7 : k = 7
 ·subst k7
  rw [if_pos rfl, es (link_7 hN o2 hX hY hrow hO hI hl0), hXl, hYl, gg, g1]
 rw [if_neg k7]
 by_cases k5 : k = 5
 ·subst k5
  rw [if_pos rfl, es (link_5 hN o2 hX hY hrow hO hI hl0), hXl, hYl, gg, gg, g1, g1, g1, <- Bool.and_assoc]
 rw [if_neg k5]
 by_cases k6 : k = 6
 ·subst k6
  rw [if_pos rfl, es (link_6 hN o2 hX hY hrow hO hI hl0), hXl, hYl, gg, gg, g1, g1]
 rw [if_neg k6, es (link_o (by simpa using k1) (by simpa using k2) (by simpa using k7) (by simpa using k5) (by simpa using k6) hN o2 hX hY hrow hO hI hl0), hXl, hYl, g1, g1]
def thirdW (n : Nt) (i : Nat) : Bool := !linkedN n i || ((kindN n i == 1 && (i : Int) != startN n) || (kindN n i == 2 && (i : Int) != endN n))
theorem third_ev {n : Nt} {N F : D} (h : IsN n N F) (hsz : n.flows.length <= 1000000) (hsz2 : n.nodes.length <= 1000000) (hE : Ends n) (bx : List Box) :
  ev cfg (.call 50 [.agg [.dat N, .dat F]] bx) = some (.ret (mkS 2 (plR 3 ((List.range n.nodes.length).filter (thirdW n)) ++ if (decide (startN n < 0) || decide (endN n < 0)) = true then [[dI 3, dI n.nodes.length]] else [])) none) := by
 have hs := fun bx : List Box => start_ev h bx
 have hz := fun bx : List Box => end_ev h bx
 have hl := fun (p : Nat) (hp : p < n.nodes.length) (bx : List Box) => linked_ev h hsz hE hp bx
 obtain ⟨o1, o2⟩ := isN_one h
 obtain ⟨nr, fr, hN, hnr, _, hF, hfr, _⟩ := h
 have hlen : nr.length = n.nodes.length := hnr.1
 have hpl := places_ev (g := 66) (cap := [bx.length, bx.length + 1, bx.length + 2]) 3 (m := n.nodes.length) (bx := bx ++ [[.dat N, .dat F], [I (startN n)], [I (endN n)]]) (thirdW n) (by simp) hsz2 fun p hp => by
  obtain ⟨row, hrow, _, _, op2, m2, K2, rfl, hT2⟩ := hnr.get hp
  have := third1_f (bx := bx ++ [[.dat N, .dat F], [I (startN n)], [I (endN n)]]) (l1 := bx.length) (l2 := bx.length + 1) (l3 := bx.length + 2) (s := startN n) (z := endN n) hN o2 hrow (by simp) (by simp) (by simp) (by simp) (by simp) (by simp) (hl p hp _)
  refine es (this.trans ?_)
  rw [thirdW, kind_at hp]
 rw [<- hlen] at hpl ⊢
 cases hf : (List.range nr.length).filter (thirdW n) with
 | nil =>
  rw [hf] at hpl
  rw [es (third_f0 hN o2 hs hz hpl)]
  congr 2
  split <;> rfl
 | cons a l =>
  rw [hf] at hpl
  have hks : ((plR 3 (a :: l)).length + 1) * 16 <= 140737488355328 := by
   rw [plR_len, <- hf]
   have := List.length_filter_le (thirdW n) (List.range nr.length)
   rw [List.length_range] at this
   omega
  rw [es (third_f1 hks hN o2 hs hz hpl)]
  congr 2
  split
  ·rfl
  ·rw [List.append_nil]; rfl
end Go.Proofs.YtifckjhggamefaaDoor
