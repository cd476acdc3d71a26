/- What package net's functions answer: up to leads. No condition. -/
import Derived.Test.YtifckjhggamefaaDoorAt
import Derived.Test.YtifckjhggamefaaDoorMC
import Derived.Test.YtifckjhggamefaaDoorN3
import Derived.Test.YtifckjhggamefaaDoorN4
import Derived.Test.YtifckjhggamefaaDoorN5
import Derived.Test.YtifckjhggamefaaDoorN5b
import Derived.Test.YtifckjhggamefaaDoorN5c
import Derived.Test.YtifckjhggamefaaDoorN5d
import Derived.Test.YtifckjhggamefaaDoorN6
import Derived.Test.YtifckjhggamefaaDoorN7
import Derived.Test.YtifckjhggamefaaDoorN8
import Derived.Test.YtifckjhggamefaaDoorN20
import Derived.Test.YtifckjhggamefaaDoorN21
set_option linter.unusedSimpArgs false
set_option linter.unusedVariables false
set_option linter.unusedSectionVars false
namespace Go.Proofs.YtifckjhggamefaaDoor
open Go Go.Vx
set_option maxRecDepth 10000
set_option maxHeartbeats 1000000

def ofT (t : Trm) (k : Int) : Bool := (checkT t).2 == 0 && (checkT t).1 == k
def natR (ks : List Nat) : List (List D) := ks.map fun (k : Nat) => [dI ((k : Nat) : Int)]

theorem none_ev (t : Trm) {op n : Int} {K : D} (h : IsT t op n K) (bx : List Box) : ev cfg (.call 64 [.agg [I op, I n, .dat K]] bx) = some (.ret (B (noneT t)) none) := by
  obtain ⟨op', n', ks⟩ := t
  rw [IsT] at h
  obtain ⟨rfl, rfl, _, _, rows, hK, hks, _⟩ := h
  rw [ev_step cfg (none_r hK), isTs_len hks]
  have e : (op == 0 && (n == 0 && (ks.length : Int) == 0)) = noneT (.mk op n ks) := by
    rw [noneT, ← Bool.and_assoc]
    congr 1
    cases ks with
    | nil => rfl
    | cons b bs =>
      have : (((b :: bs).length : Int) == 0) = false := by rw [beq_eq_false_iff_ne]; simp; omega
      rw [this]; rfl
  rw [e]
theorem of_ev (t : Trm) {op n : Int} {K : D} (h : IsT t op n K) (hz : sizeT t ≤ 1000000) (k : Int) (bx : List Box) : ev cfg (.call 63 [.agg [I op, I n, .dat K], I k] bx) = some (.ret (B (ofT t k)) none) :=
  ev_step cfg (of_r (isT_one h) fun bx => check_ev t h hz bx)

theorem zero_is : IsT (.mk 0 0 []) 0 0 .nil := by
  rw [IsT]
  exact ⟨rfl, rfl, ⟨by omega, by omega⟩, ⟨by omega, by omega⟩, [], mkD_is 3 [], rfl, by decide⟩
theorem right_ev (x : Nd) {op n : Int} {K : D} (h : IsT x.t op n K) (hz : sizeT x.t ≤ 1000000) (bx : List Box) : ev cfg (.call 47 [.agg [I x.k, I x.a, I op, I n, .dat K]] bx) = some (.ret (B (rightN ofT x)) none) := by
  obtain ⟨k, a, t⟩ := x
  simp only at h hz ⊢
  have hn := fun bx : List Box => none_ev t h bx
  have ho := fun bx : List Box => of_ev t h hz 1 bx
  by_cases h4 : k = 4
  · subst h4
    rw [rightN, if_pos rfl]
    simp only
    cases hb : ofT t 1 with
    | false =>
      rw [hb] at ho
      exact ev_step cfg (right_4n (isT_one h) ho)
    | true =>
      rw [hb] at ho
      rw [ev_step cfg (right_4y (isT_one h) ho fun bx => none_ev _ zero_is bx)]
      rfl
  · rw [rightN, if_neg h4]
    simp only
    by_cases h3 : k = 3
    · subst h3
      rw [ev_step cfg (right_3 (isT_one h) hn)]
      simp only [most, if_true, Bool.and_assoc]
      all_goals rfl
    · by_cases h8 : k = 8
      · subst h8
        rw [ev_step cfg (right_8 (isT_one h) hn)]
        simp only [most, if_true, Bool.and_assoc]
        all_goals rfl
      · rw [ev_step cfg (right_o (isT_one h) (by simpa using h4) (by simpa using h3) (by simpa using h8) hn)]
        simp only [most, if_neg h3, if_neg h8, Bool.and_assoc]
        all_goals rfl

theorem isN_one {n : Nt} {N F : D} (h : IsN n N F) : N.oneC = true ∧ F.oneC = true := by
  obtain ⟨nr, fr, ⟨_, _, _, h1⟩, _, _, ⟨_, _, _, h2⟩, _⟩ := h
  exact ⟨h1, h2⟩
theorem natR_app (xs ys : List Nat) : natR (xs ++ ys) = natR xs ++ natR ys := by simp [natR]
theorem natR_len (xs : List Nat) : (natR xs).length = xs.length := by simp [natR]

theorem flows_ev {n : Nt} {N F : D} {g : FuncId} {l : Nat} (p : Fl → Bool) (h : IsN n N F) (hsz : n.flows.length ≤ 1000000) {bx : List Box} (hl : l < bx.length)
    (hcall : ∀ (f : Fl) op m K, IsT f.c op m K → ∀ r : List Box, ev cfg (.call g [.agg [I f.fr, I f.to, B f.els, I op, I m, .dat K], .ptr l 0] (bx ++ r)) = some (.ret (B (p f)) none)) :
    ev cfg (.call 59 [.agg [.dat N, .dat F], .clo g [l]] bx) = some (.ret (.dat (mkD 1 (natR (idxs p 0 n.flows)))) none) := by
  have hone := (isN_one h).1
  obtain ⟨nr, fr, hN, _, _, hF, hfr, hmax⟩ := h
  have hlen : fr.length = n.flows.length := hfr.1
  have loop : ∀ (fs : List Fl) (i : Nat) (acc : List Nat), n.flows.drop i = fs → acc.length ≤ i → ∀ c : Box, c.all (cellLt (bx.length + 1)) = true →
      ev cfg (.loop 59 3 ⟨(.dead :: .clo g [l] :: .dead :: .dead :: .dead :: mkS 1 (natR acc) :: .dead :: .dead :: .dead :: .dat F :: I fr.length :: I i :: .dead :: .dead :: .dead :: .dead :: .dead :: .dead :: .dead :: .dead :: .dead :: .dead :: .dead :: .dead :: .dead :: []), bx ++ [c], bx.length, none, false⟩) = some (.loop (.exit 0) ⟨(.dead :: .dead :: .dead :: .dead :: .dead :: mkS 1 (natR (acc ++ idxs p i fs)) :: .dead :: .dead :: .dead :: .dead :: .dead :: .dead :: .dead :: .dead :: .dead :: .dead :: .dead :: .dead :: .dead :: .dead :: .dead :: .dead :: .dead :: .dead :: .dead :: []), bx ++ [c], bx.length, none, false⟩) := by
    intro fs
    induction fs with
    | nil =>
      intro i acc hd ha c hc
      rw [idxs, List.append_nil]
      exact ev_step cfg (flows_end rfl hl hc (by rw [hlen]; exact drop_nil hd))
    | cons f fs ih =>
      intro i acc hd ha c hc
      obtain ⟨hget, hd', hlt⟩ := drop_cons hd
      obtain ⟨row, hrow, _, _, op, m, K, rfl, hT⟩ := hfr.2 i f hget
      have hc1 := hcall f op m K hT
      have hks : ((natR acc).length + 1) * 8 ≤ 140737488355328 := by rw [natR_len]; omega
      have e : acc ++ idxs p i (f :: fs) = (if p f = true then acc ++ [i] else acc) ++ idxs p (i + 1) fs := by
        rw [idxs]
        split <;> simp
      rw [e]
      have hacc : (if p f = true then acc ++ [i] else acc).length ≤ i + 1 := by split <;> (try simp) <;> omega
      have := ih (i + 1) (if p f = true then acc ++ [i] else acc) hd' hacc c hc
      refine ev_step cfg (Eq.trans ?_ this)
      cases acc with
      | nil =>
        refine (flows_round0 hF hl hc hrow (by rw [hlen]; exact hlt) (by rw [hlen]; exact hmax) (isT_one hT) hc1).trans ?_
        cases p f <;> rfl
      | cons a acc =>
        refine (flows_round1 (rs := natR (a :: acc)) hF hl hc hrow (by rw [hlen]; exact hlt) (by rw [hlen]; exact hmax) (isT_one hT) hks hc1).trans ?_
        cases p f
        · rfl
        · simp only [if_true, natR_app]; rfl
  refine ev_step cfg (flows_f hone hF hl fun c hc => ?_)
  have := loop n.flows 0 [] rfl (Nat.le_refl _) c hc
  rw [List.nil_append] at this
  exact this

theorem mkD_one (k : Nat) (xs : List (List D)) : (mkD k xs).oneC = true := by cases xs <;> rfl
theorem outs_ev {n : Nt} {N F : D} (h : IsN n N F) (hsz : n.flows.length ≤ 1000000) (i : Int) (bx : List Box) : ev cfg (.call 39 [.agg [.dat N, .dat F], I i] bx) = some (.ret (.dat (mkD 1 (natR (outsN n i)))) none) := by
  refine ev_step cfg (outs_f (isN_one h).1 (isN_one h).2 (mkD_one _ _) fun c => ?_)
  exact flows_ev (fun f => f.fr == i) h hsz (by simp) fun f op m K hT r => ev_step cfg (outs1_f (isT_one hT) (by simp) (by simp))
theorem ins_ev {n : Nt} {N F : D} (h : IsN n N F) (hsz : n.flows.length ≤ 1000000) (i : Int) (bx : List Box) : ev cfg (.call 83 [.agg [.dat N, .dat F], I i] bx) = some (.ret (.dat (mkD 1 (natR (insN n i)))) none) := by
  refine ev_step cfg (ins_f (isN_one h).1 (isN_one h).2 (mkD_one _ _) fun c => ?_)
  exact flows_ev (fun f => f.to == i) h hsz (by simp) fun f op m K hT r => ev_step cfg (ins1_f (isT_one hT) (by simp) (by simp))

theorem index_ev {n : Nt} {N F : D} (h : IsN n N F) {g : FuncId} (k : Int) (hcall : ∀ (x : Nd) op m K, IsT x.t op m K → ∀ bx : List Box, ev cfg (.call g [.agg [I x.k, I x.a, I op, I m, .dat K]] bx) = some (.ret (B (x.k == k)) none)) (bx : List Box) :
    ev cfg (.call 68 [.dat N, .clo g []] bx) = some (.ret (I (firstK k 0 n.nodes)) none) := by
  obtain ⟨nr, fr, hN, hnr, hmax, _⟩ := h
  have hlen : nr.length = n.nodes.length := hnr.1
  have loop : ∀ (xs : List Nd) (i : Nat), n.nodes.drop i = xs → ∃ y : Option Int, firstK k i xs = y.getD (-1) ∧ ev cfg (.loop 68 2 ⟨(.dat N :: .clo g [] :: .dead :: .dead :: .dead :: .dead :: .dead :: I nr.length :: I i :: .dead :: .dead :: .dead :: .dead :: .dead :: .dead :: .dead :: .dead :: .dead :: .dead :: []), bx, bx.length, none, false⟩) = some (match y with
      | some j => .loop .ret ⟨(.dead :: .dead :: .dead :: .dead :: I j :: .dead :: .dead :: .dead :: .dead :: .dead :: .dead :: .dead :: .dead :: .dead :: .dead :: .dead :: .dead :: .dead :: .dead :: []), bx, bx.length, none, false⟩
      | none => .loop (.exit 0) ⟨(.dead :: .dead :: .dead :: .dead :: .dead :: .dead :: .dead :: .dead :: .dead :: .dead :: .dead :: .dead :: .dead :: .dead :: .dead :: .dead :: .dead :: .dead :: .dead :: []), bx, bx.length, none, false⟩) := by
    intro xs
    induction xs with
    | nil =>
      intro i hd
      exact ⟨none, rfl, ev_step cfg (index_end (by rw [hlen]; exact drop_nil hd))⟩
    | cons x xs ih =>
      intro i hd
      obtain ⟨hget, hd', hlt⟩ := drop_cons hd
      obtain ⟨row, hrow, _, _, op, m, K, rfl, hT⟩ := hnr.2 i x hget
      have hr := index_round (bx := bx) hN hrow (by rw [hlen]; exact hlt) (by rw [hlen]; exact hmax) (isT_one hT) (fun bx => hcall x op m K hT bx)
      rw [firstK]
      by_cases hx : x.k = k
      · rw [if_pos hx]
        rw [show (x.k == k) = true by simpa using hx, if_pos rfl] at hr
        exact ⟨some i, rfl, ev_step cfg hr⟩
      · rw [if_neg hx]
        rw [show (x.k == k) = false by simpa using hx, if_neg (by decide)] at hr
        obtain ⟨y, h1, h2⟩ := ih (i + 1) hd'
        exact ⟨y, by simpa using h1, ev_step cfg (hr.trans h2)⟩
  obtain ⟨y, h1, h2⟩ := loop n.nodes 0 rfl
  have h1' : firstK k 0 n.nodes = y.getD (-1) := h1
  rw [h1']
  exact ev_step cfg (index_f hN h2)
theorem start_ev {n : Nt} {N F : D} (h : IsN n N F) (bx : List Box) : ev cfg (.call 52 [.agg [.dat N, .dat F]] bx) = some (.ret (I (startN n)) none) :=
  ev_step cfg (start_f (isN_one h).1 (isN_one h).2 fun bx => index_ev h 1 (fun x op m K hT bx => ev_step cfg (start1_f (isT_one hT))) bx)
theorem end_ev {n : Nt} {N F : D} (h : IsN n N F) (bx : List Box) : ev cfg (.call 53 [.agg [.dat N, .dat F]] bx) = some (.ret (I (endN n)) none) :=
  ev_step cfg (end_f (isN_one h).1 (isN_one h).2 fun bx => index_ev h 2 (fun x op m K hT bx => ev_step cfg (end1_f (isT_one hT))) bx)

theorem lead1_ev {n : Nt} {N F : D} (h : IsN n N F) (q : Int) {bx : List Box} {l : Nat} (hb : bx[l]? = some [.dat N, .dat F]) : ev cfg (.call 65 [I q, .ptr l 0] bx) = some (.ret (B (inN n q)) none) := by
  obtain ⟨nr, fr, hN, hnr, _⟩ := h
  rw [ev_step cfg (leads1_f hN (List.getElem?_eq_some_iff.1 hb).1 hb), hnr.1]
  rfl
theorem leads_ev {n : Nt} {N F : D} (h : IsN n N F) (hsz : n.flows.length ≤ 1000000) (f : Fl) {op m : Int} {K : D} (hT : IsT f.c op m K) (hz : sizeT f.c ≤ 1000000) (bx : List Box) :
    ev cfg (.call 49 [.agg [.dat N, .dat F], .agg [I f.fr, I f.to, B f.els, I op, I m, .dat K]] bx) = some (.ret (B (leadsN ofT n f)) none) := by
  have h1 := fun c : Box => lead1_ev h f.fr (bx := bx ++ [[.dat N, .dat F], c]) (l := bx.length) (by simp)
  have h2 := fun c : Box => lead1_ev h f.to (bx := bx ++ [[.dat N, .dat F], c]) (l := bx.length) (by simp)
  obtain ⟨o1, o2⟩ := isN_one h
  cases c1 : inN n f.fr with
  | false =>
    rw [c1] at h1
    have e : leadsN ofT n f = false := by simp [leadsN, c1]
    rw [e]
    exact ev_step cfg (leads_no1 o1 o2 (isT_one hT) h1)
  | true =>
    rw [c1] at h1
    cases c2 : inN n f.to with
    | false =>
      rw [c2] at h2
      have e : leadsN ofT n f = false := by simp [leadsN, c2]
      rw [e]
      exact ev_step cfg (leads_no2 o1 o2 (isT_one hT) h1 h2 (.inl rfl))
    | true =>
      rw [c2] at h2
      cases c3 : (f.fr == f.to) with
      | true =>
        have e : leadsN ofT n f = false := by simp [leadsN, bne, c3]
        rw [e]
        exact ev_step cfg (leads_no2 o1 o2 (isT_one hT) h1 h2 (.inr c3))
      | false =>
        have hin : 0 ≤ f.fr ∧ f.fr < n.nodes.length := by simpa [inN] using c1
        obtain ⟨p, hp⟩ : ∃ p : Nat, f.fr = p := ⟨f.fr.toNat, by omega⟩
        have hpl : p < n.nodes.length := by omega
        have hh := h
        obtain ⟨nr, fr, hN, hnr, _⟩ := hh
        obtain ⟨row, hrow, _, _, op2, m2, K2, rfl, hT2⟩ := hnr.get hpl
        have hO := fun bx : List Box => outs_ev h hsz f.fr bx
        have hkind : kindN n f.fr = n.nodes[p].k := by
          rw [kindN, if_neg (by omega), hp]
          simp [hpl]
        rw [hp] at h1 c3 hO ⊢
        rw [ev_step cfg (leads_go (e := f.els) (op := op) (n := m) (K := K) hN o2 (isT_one hT) h1 h2 c3 hrow (mkD_is _ _) hO (fun bx => none_ev f.c hT bx) fun bx => of_ev f.c hT hz 2 bx)]
        congr 4
        rw [natR_len]
        have e : leadsN ofT n f = if kindN n f.fr ≠ 5 ∨ (outsN n f.fr).length < 2 then !f.els && noneT f.c else if f.els = true then noneT f.c else ofT f.c 2 := by
          rw [leadsN, c1, c2]
          have : (f.fr != f.to) = true := by rw [bne, hp, c3]; rfl
          rw [this]; rfl
        rw [e, hkind, ← hp]
        congr 1
        simp only [Bool.or_eq_true, bne_iff_ne, ne_eq, decide_eq_true_eq]
        refine propext (or_congr Iff.rfl ?_)
        rw [hp]; omega

end Go.Proofs.YtifckjhggamefaaDoor
namespace Go.Proofs.YtifckjhggamefaaDoor
open Go Go.Vx
set_option maxRecDepth 10000
set_option maxHeartbeats 1000000

def plR (rule : Int) (ks : List Nat) : List (List D) := ks.map fun (k : Nat) => [dI rule, dI ((k : Nat) : Int)]
theorem plR_app (r : Int) (xs ys : List Nat) : plR r (xs ++ ys) = plR r xs ++ plR r ys := by simp [plR]
theorem plR_len (r : Int) (xs : List Nat) : (plR r xs).length = xs.length := by simp [plR]

theorem places_ev {g : FuncId} {cap : List Nat} (rule : Int) {m : Nat} {bx : List Box} (w : Nat → Bool) (hcap : (cap.all fun l => decide (l < bx.length)) = true) (hm : m ≤ 1000000)
    (hcall : ∀ i, i < m → ev cfg (.call g (I i :: cap.map fun l => .ptr l 0) bx) = some (.ret (B (w i)) none)) :
    ev cfg (.call 45 [I rule, I m, .clo g cap] bx) = some (.ret (mkS 2 (plR rule ((List.range m).filter w))) none) := by
  have loop : ∀ (j i : Nat) (acc : List Nat), i + j = m → acc.length ≤ i → ev cfg (.loop 45 3 ⟨(I rule :: .dead :: .clo g cap :: .dead :: .dead :: .dead :: .dead :: mkS 2 (plR rule acc) :: .dead :: I m :: I i :: .dead :: .dead :: .dead :: .dead :: .dead :: .dead :: .dead :: .dead :: .dead :: .dead :: .dead :: .dead :: .dead :: []), bx, bx.length, none, false⟩) =
      some (.loop (.exit 0) ⟨(.dead :: .dead :: .dead :: .dead :: .dead :: .dead :: .dead :: mkS 2 (plR rule (acc ++ (List.range' i j).filter w)) :: .dead :: .dead :: .dead :: .dead :: .dead :: .dead :: .dead :: .dead :: .dead :: .dead :: .dead :: .dead :: .dead :: .dead :: .dead :: .dead :: []), bx, bx.length, none, false⟩) := by
    intro j
    induction j with
    | zero =>
      intro i acc hi ha
      rw [List.range'_zero, List.filter_nil, List.append_nil]
      exact ev_step cfg (places_end hcap (by omega))
    | succ j ih =>
      intro i acc hi ha
      have hc1 := hcall i (by omega)
      have e : acc ++ (List.range' i (j + 1)).filter w = (if w i = true then acc ++ [i] else acc) ++ (List.range' (i + 1) j).filter w := by
        rw [List.range'_succ, List.filter_cons]
        split <;> simp
      rw [e]
      have hacc : (if w i = true then acc ++ [i] else acc).length ≤ i + 1 := by split <;> (try simp) <;> omega
      refine ev_step cfg (Eq.trans ?_ (ih (i + 1) (if w i = true then acc ++ [i] else acc) (by omega) hacc))
      have hks : ((plR rule acc).length + 1) * 16 ≤ 140737488355328 := by rw [plR_len]; omega
      cases acc with
      | nil =>
        refine (places_round0 hcap (by omega) (by omega) hc1).trans ?_
        cases w i <;> rfl
      | cons a acc =>
        refine (places_round1 (rs := plR rule (a :: acc)) hcap (by omega) (by omega) hks hc1).trans ?_
        cases w i
        · rfl
        · simp only [if_true, plR_app]; rfl
  refine ev_step cfg (places_f hcap ?_)
  have := loop m 0 [] (by omega) (Nat.le_refl _)
  rw [List.nil_append, ← List.range_eq_range'] at this
  exact this

theorem outs_lt {n : Nt} {i : Int} {o : Nat} (h : o ∈ outsN n i) : o < n.flows.length := by
  obtain ⟨_, x, h1, _⟩ := (mem_idxs _ _ _ _).1 h
  exact (List.getElem?_eq_some_iff.1 h1).1
theorem kind_at {n : Nt} {p : Nat} (h : p < n.nodes.length) : kindN n p = n.nodes[p].k := by
  rw [kindN, if_neg (by omega)]
  simp [h]
theorem to_at {n : Nt} {p : Nat} (h : p < n.flows.length) : toN n p = n.flows[p].to := by simp [toN, h]
theorem els_at {n : Nt} {p : Nat} (h : p < n.flows.length) : elsN n p = n.flows[p].els := by simp [elsN, h]

/-- the ends of all flows are nodes -/
def Ends (n : Nt) : Prop := ∀ f ∈ n.flows, (0 ≤ f.fr ∧ f.fr < n.nodes.length) ∧ 0 ≤ f.to ∧ f.to < n.nodes.length

theorem beq_nat (m k : Nat) : ((m : Int) == (k : Int)) = (m == k) := by rw [Bool.eq_iff_iff, beq_iff_eq, beq_iff_eq]; omega
theorem linked_ev {n : Nt} {N F : D} (h : IsN n N F) (hsz : n.flows.length ≤ 1000000) (hE : Ends n) {p : Nat} (hp : p < n.nodes.length) (bx : List Box) :
    ev cfg (.call 67 [.agg [.dat N, .dat F], I p] bx) = some (.ret (B (linkedN n p)) none) := by
  have hO := fun bx : List Box => outs_ev h hsz p bx
  have hI := fun bx : List Box => ins_ev h hsz p bx
  have hol : (outsN n p).length ≤ 1000000 := Nat.le_trans (idxs_len _ _ _) hsz
  obtain ⟨o1, o2⟩ := isN_one h
  obtain ⟨nr, fr, hN, hnr, _, hF, hfr, _⟩ := h
  obtain ⟨row, hrow, _, _, op2, m2, K2, rfl, hT2⟩ := hnr.get hp
  have hX := mkD_is 1 (natR (outsN n p))
  have hXl : (natR (outsN n p)).length = (outsN n p).length := natR_len _
  have loop : ∀ (ins kd : Int) (os : List Nat) (i el : Nat) (cat : Bool), (outsN n p).drop i = os → el ≤ i →
      ev cfg (.loop 67 6 ⟨(.dead :: .dead :: .ptr bx.length 0 :: .dead :: .dead :: .dat (mkD 1 (natR (outsN n p))) :: I ins :: I kd :: I el :: B cat :: .dead :: .dead :: .dead :: .dead :: .dead :: .dead :: .dead :: .dead :: .dead :: .dead :: .dead :: .dead :: .dead :: .dead :: .dead :: .dead :: .dat (mkD 1 (natR (outsN n p))) :: I (natR (outsN n p)).length :: I i :: .dead :: .dead :: .dead :: .dead :: .dead :: .dead :: .dead :: .dead :: .dead :: .dead :: .dead :: .dead :: .dead :: .dead :: .dead :: .dead :: .dead :: .dead :: .dead :: .dead :: .dead :: .dead :: .dead :: .dead :: .dead :: .dead :: .dead :: .dead :: .dead :: .dead :: .dead :: .dead :: .dead :: .dead :: .dead :: .dead :: .dead :: .dead :: .dead :: .dead :: .dead :: .dead :: .dead :: .dead :: .dead :: .dead :: .dead :: .dead :: .dead :: .dead :: .dead :: .dead :: .dead :: .dead :: .dead :: .dead :: .dead :: .dead :: .dead :: .dead :: .dead :: .dead :: .dead :: .dead :: .dead :: .dead :: .dead :: .dead :: .dead :: .dead :: .dead :: .dead :: .dead :: .dead :: .dead :: .dead :: .dead :: .dead :: .dead :: .dead :: .dead :: .dead :: .dead :: .dead :: .dead :: .dead :: .dead :: .dead :: .dead :: .dead :: .dead :: .dead :: .dead :: []), bx ++ [[.dat N, .dat F]], bx.length, none, false⟩) =
      some (.loop (.exit 0) ⟨(.dead :: .dead :: .dead :: .dead :: .dead :: .dat (mkD 1 (natR (outsN n p))) :: I ins :: I kd :: I ((el + (os.filter (elsN n)).length : Nat) : Int) :: B (cat && os.all fun f => kindN n (toN n f) == 8) :: .dead :: .dead :: .dead :: .dead :: .dead :: .dead :: .dead :: .dead :: .dead :: .dead :: .dead :: .dead :: .dead :: .dead :: .dead :: .dead :: .dead :: .dead :: .dead :: .dead :: .dead :: .dead :: .dead :: .dead :: .dead :: .dead :: .dead :: .dead :: .dead :: .dead :: .dead :: .dead :: .dead :: .dead :: .dead :: .dead :: .dead :: .dead :: .dead :: .dead :: .dead :: .dead :: .dead :: .dead :: .dead :: .dead :: .dead :: .dead :: .dead :: .dead :: .dead :: .dead :: .dead :: .dead :: .dead :: .dead :: .dead :: .dead :: .dead :: .dead :: .dead :: .dead :: .dead :: .dead :: .dead :: .dead :: .dead :: .dead :: .dead :: .dead :: .dead :: .dead :: .dead :: .dead :: .dead :: .dead :: .dead :: .dead :: .dead :: .dead :: .dead :: .dead :: .dead :: .dead :: .dead :: .dead :: .dead :: .dead :: .dead :: .dead :: .dead :: .dead :: .dead :: .dead :: .dead :: .dead :: .dead :: .dead :: .dead :: .dead :: .dead :: .dead :: .dead :: .dead :: .dead :: .dead :: .dead :: .dead :: .dead :: .dead :: .dead :: .dead :: []), bx ++ [[.dat N, .dat F]], bx.length, none, false⟩) := by
    intro ins kd os
    induction os with
    | nil =>
      intro i el cat hd _
      rw [List.filter_nil, List.length_nil, Nat.add_zero, List.all_nil, Bool.and_true]
      exact ev_step cfg (link_end o1 o2 (mkD_one _ _) (by rw [hXl]; exact drop_nil hd))
    | cons o os ih =>
      intro i el cat hd hel
      obtain ⟨hget, hd', hlt⟩ := drop_cons hd
      have hol2 : o < n.flows.length := outs_lt (List.mem_of_getElem? hget)
      obtain ⟨row, hfrow, _, _, op, m, K, rfl, hT⟩ := hfr.get hol2
      have hends := hE n.flows[o] (List.getElem_mem hol2)
      obtain ⟨q, hq⟩ : ∃ q : Nat, n.flows[o].to = q := ⟨n.flows[o].to.toNat, by omega⟩
      have hql : q < n.nodes.length := by omega
      obtain ⟨row, hnrow, _, _, op3, m3, K3, rfl, hT3⟩ := hnr.get hql
      rw [hq] at hfrow
      have hXget : (natR (outsN n p))[i]? = some [dI (o : Int)] := by simp [natR, hget]
      have hr := link_round (bx := bx) (el := (el : Int)) (ins := ins) (kd := kd) (cat := cat) hN hF hX hXget hfrow hnrow (by rw [hXl]; exact hlt) (by rw [hXl]; omega) (wrap_lo (by omega) (by omega))
      have hk8 : (kindN n (toN n o) == 8) = (n.nodes[q].k == 8) := by rw [to_at hol2, hq, kind_at hql]
      have hel' : (if n.flows[o].els = true then (el : Int) + 1 else el) = ((if elsN n o = true then el + 1 else el : Nat) : Int) := by
        rw [els_at hol2]; split <;> simp
      rw [hel', ← hk8] at hr
      have e1 : el + ((o :: os).filter (elsN n)).length = (if elsN n o = true then el + 1 else el) + (os.filter (elsN n)).length := by
        rw [List.filter_cons]; split <;> simp <;> omega
      rw [e1, List.all_cons, ← Bool.and_assoc]
      exact ev_step cfg (hr.trans (ih (i + 1) (if elsN n o = true then el + 1 else el) (cat && kindN n (toN n o) == 8) hd' (by split <;> omega)))
  have hl := fun kd : Int => loop (natR (insN n p)).length kd (outsN n p) 0 0 true rfl (Nat.le_refl _)
  have hk : kindN n p = n.nodes[p].k := kind_at hp
  have hY := mkD_is 1 (natR (insN n p))
  have hYl : (natR (insN n p)).length = (insN n p).length := natR_len _
  have g0 : ∀ m : Nat, ((m : Int) == 0) = (m == 0) := fun m => beq_nat m 0
  have g1 : ∀ m : Nat, ((m : Int) == 1) = (m == 1) := fun m => beq_nat m 1
  have gg : ∀ m : Nat, decide ((m : Int) > 1) = decide (1 < m) := fun m => decide_eq_decide.2 (by omega)
  rw [linkedN]
  simp only [hk]
  generalize n.nodes[p].k = k at hrow
  have hl0 := hl k
  simp only [Nat.zero_add, Bool.true_and] at hl0
  by_cases k1 : k = 1
  · subst k1
    rw [if_pos rfl, ev_step cfg (link_1 hN o2 hX hY hrow hO hI hl0), hXl, hYl, g0, g1]
  rw [if_neg k1]
  by_cases k2 : k = 2
  · subst k2
    rw [if_pos rfl, ev_step cfg (link_2 hN o2 hX hY hrow hO hI hl0), hXl, hYl, g0, g1]
  rw [if_neg k2]
  by_cases k7 : k = 7
  · subst k7
    rw [if_pos rfl, ev_step cfg (link_7 hN o2 hX hY hrow hO hI hl0), hXl, hYl, gg, g1]
  rw [if_neg k7]
  by_cases k5 : k = 5
  · subst k5
    rw [if_pos rfl, ev_step cfg (link_5 hN o2 hX hY hrow hO hI hl0), hXl, hYl, gg, gg, g1, g1, g1, ← Bool.and_assoc]
  rw [if_neg k5]
  by_cases k6 : k = 6
  · subst k6
    rw [if_pos rfl, ev_step cfg (link_6 hN o2 hX hY hrow hO hI hl0), hXl, hYl, gg, gg, g1, g1]
  rw [if_neg k6, ev_step cfg (link_o (by simpa using k1) (by simpa using k2) (by simpa using k7) (by simpa using k5) (by simpa using k6) hN o2 hX hY hrow hO hI hl0), hXl, hYl, g1, g1]

def thirdW (n : Nt) (i : Nat) : Bool := !linkedN n i || ((kindN n i == 1 && (i : Int) != startN n) || (kindN n i == 2 && (i : Int) != endN n))
theorem third_ev {n : Nt} {N F : D} (h : IsN n N F) (hsz : n.flows.length ≤ 1000000) (hsz2 : n.nodes.length ≤ 1000000) (hE : Ends n) (bx : List Box) :
    ev cfg (.call 50 [.agg [.dat N, .dat F]] bx) = some (.ret (mkS 2 (plR 3 ((List.range n.nodes.length).filter (thirdW n)) ++ if (decide (startN n < 0) || decide (endN n < 0)) = true then [[dI 3, dI n.nodes.length]] else [])) none) := by
  have hs := fun bx : List Box => start_ev h bx
  have hz := fun bx : List Box => end_ev h bx
  have hl := fun (p : Nat) (hp : p < n.nodes.length) (bx : List Box) => linked_ev h hsz hE hp bx
  obtain ⟨o1, o2⟩ := isN_one h
  obtain ⟨nr, fr, hN, hnr, _, hF, hfr, _⟩ := h
  have hlen : nr.length = n.nodes.length := hnr.1
  have hpl := places_ev (g := 66) (cap := [bx.length, bx.length + 1, bx.length + 2]) 3 (m := n.nodes.length) (bx := bx ++ [[.dat N, .dat F], [I (startN n)], [I (endN n)]]) (thirdW n) (by simp) hsz2 fun p hp => by
    obtain ⟨row, hrow, _, _, op2, m2, K2, rfl, hT2⟩ := hnr.get hp
    have := third1_f (bx := bx ++ [[.dat N, .dat F], [I (startN n)], [I (endN n)]]) (l1 := bx.length) (l2 := bx.length + 1) (l3 := bx.length + 2) (s := startN n) (z := endN n) hN o2 hrow (by simp) (by simp) (by simp) (by simp) (by simp) (by simp) (hl p hp _)
    refine ev_step cfg (this.trans ?_)
    rw [thirdW, kind_at hp]
  rw [← hlen] at hpl ⊢
  cases hf : (List.range nr.length).filter (thirdW n) with
  | nil =>
    rw [hf] at hpl
    rw [ev_step cfg (third_f0 hN o2 hs hz hpl)]
    congr 2
    split <;> rfl
  | cons a l =>
    rw [hf] at hpl
    have hks : ((plR 3 (a :: l)).length + 1) * 16 ≤ 140737488355328 := by
      rw [plR_len, ← hf]
      have := List.length_filter_le (thirdW n) (List.range nr.length)
      rw [List.length_range] at this
      omega
    rw [ev_step cfg (third_f1 hks hN o2 hs hz hpl)]
    congr 2
    split
    · rfl
    · rw [List.append_nil]; rfl

end Go.Proofs.YtifckjhggamefaaDoor
namespace Go.Proofs.YtifckjhggamefaaDoor
open Go Go.Vx
set_option maxRecDepth 10000
set_option maxHeartbeats 1000000

theorem boolR_get {bs : List Bool} {i : Nat} {b : Bool} (h : bs[i]? = some b) : (boolR bs)[i]? = some [.lit (.bool b)] := by simp [boolR, h]
theorem boolR_set (bs : List Bool) (i : Nat) (b : Bool) : (boolR bs).set i [.lit (.bool b)] = boolR (bs.set i b) := by simp [boolR, List.map_set]
theorem boolR_rep (m : Nat) : List.replicate m [D.lit (.bool false)] = boolR (List.replicate m false) := by simp [boolR]
theorem intR_app (xs ys : List Int) : intR (xs ++ ys) = intR xs ++ intR ys := by simp [intR]
theorem intR_len (xs : List Int) : (intR xs).length = xs.length := by simp [intR]

theorem met_ev {n : Nt} {N F : D} (h : IsN n N F) (hfl : n.flows.length ≤ 1000) (hnd : n.nodes.length ≤ 1000) (hE : Ends n) (back : Bool) {a : Int} (ha : 0 ≤ a ∧ a < n.nodes.length) :
    ∃ seen : List Bool, seen.length = n.nodes.length ∧ (∀ i : Nat, seen[i]? = some true ↔ Rch (EdgeB n back) a i) ∧ ∀ bx : List Box, ev cfg (.call 51 [.agg [.dat N, .dat F], I a, B back] bx) = some (.ret (.dat (.sl 1 (boolR seen))) none) := by
  obtain ⟨o1, o2⟩ := isN_one h
  obtain ⟨nr, fr, hN, hnr, _, hF, hfr, _⟩ := h
  have hlen : nr.length = n.nodes.length := hnr.1
  have hflen : fr.length = n.flows.length := hfr.1
  -- over the flows
  have inner : ∀ (bx : List Box) (sr : List (List D)) (q : Nat) (fs : List Fl) (i : Nat) (todo : List Int), n.flows.drop i = fs → todo.length + fs.length ≤ 10000000 →
      ev cfg (.loop 51 9 ⟨(.dead :: .dead :: B back :: .ptr bx.length 0 :: .dead :: .dead :: .dead :: .own true 1 sr :: .own true 1 (intR todo) :: I q :: .dead :: .dead :: .dead :: .dead :: .dead :: .dead :: .dead :: .dead :: .dead :: .dead :: .dead :: .dead :: .dead :: .dead :: .dead :: .dead :: .dead :: .dead :: .dead :: .dead :: .dead :: .dead :: .dead :: .dead :: .dat F :: I fr.length :: I i :: .dead :: .dead :: .dead :: .dead :: .dead :: .dead :: .dead :: .dead :: .dead :: .dead :: .dead :: .dead :: .dead :: .dead :: .dead :: .dead :: .dead :: .dead :: .dead :: .dead :: .dead :: .dead :: .dead :: .dead :: .dead :: .dead :: .dead :: .dead :: .dead :: .dead :: .dead :: .dead :: []), bx ++ [[.dat N, .dat F]], bx.length, none, false⟩) =
      some (.loop (.exit 2) ⟨(.dead :: .dead :: B back :: .ptr bx.length 0 :: .dead :: .dead :: .dead :: .own true 1 sr :: .own true 1 (intR (todo ++ fs.filterMap (nextF back q))) :: .dead :: .dead :: .dead :: .dead :: .dead :: .dead :: .dead :: .dead :: .dead :: .dead :: .dead :: .dead :: .dead :: .dead :: .dead :: .dead :: .dead :: .dead :: .dead :: .dead :: .dead :: .dead :: .dead :: .dead :: .dead :: .dead :: .dead :: .dead :: .dead :: .dead :: .dead :: .dead :: .dead :: .dead :: .dead :: .dead :: .dead :: .dead :: .dead :: .dead :: .dead :: .dead :: .dead :: .dead :: .dead :: .dead :: .dead :: .dead :: .dead :: .dead :: .dead :: .dead :: .dead :: .dead :: .dead :: .dead :: .dead :: .dead :: .dead :: .dead :: []), bx ++ [[.dat N, .dat F]], bx.length, none, false⟩) := by
    intro bx sr q fs
    have hc : ([.dat N, .dat F] : Box).all (cellLt (bx.length + 1)) = true := by simp [cellLt]
    induction fs with
    | nil =>
      intro i todo hd _
      rw [List.filterMap_nil, List.append_nil]
      exact ev_step cfg (met_ine o2 hc (by rw [hflen]; exact drop_nil hd))
    | cons f fs ih =>
      intro i todo hd hsz
      obtain ⟨hget, hd', hlt⟩ := drop_cons hd
      obtain ⟨row, hrow, _, _, op, m, K, rfl, hT⟩ := hfr.2 i f hget
      have hr := met_in (bx := bx) (c := [.dat N, .dat F]) (q := q) (back := back) (sr := sr) (tr := intR todo) hF hc hrow (isT_one hT) (by rw [hflen]; exact hlt) (by rw [hflen]; omega) (by rw [intR_len]; simp at hsz; omega)
      have e1 : (if back = true then (if (f.to == (q : Int)) = true then intR todo ++ [[dI f.fr]] else intR todo) else if (f.fr == (q : Int)) = true then intR todo ++ [[dI f.to]] else intR todo) = intR (todo ++ (nextF back q f).toList) := by
        simp only [nextF, beq_iff_eq]
        split <;> split <;> simp [intR_app, intR]
      have e2 : todo ++ (f :: fs).filterMap (nextF back q) = (todo ++ (nextF back q f).toList) ++ fs.filterMap (nextF back q) := by
        rw [List.filterMap_cons]
        cases nextF back q f <;> simp
      rw [e1] at hr
      rw [e2]
      refine ev_step cfg (hr.trans (ih (i + 1) _ hd' ?_))
      have : (nextF back q f).toList.length ≤ 1 := by cases nextF back q f <;> simp
      simp at hsz ⊢
      omega
  -- over what is to be gone from
  have outer : ∀ (m : Nat) (todo : List Int) (seen : List Bool), MetInv n back a todo seen → unseen seen * (n.flows.length + 1) + todo.length ≤ m → m ≤ 5000000 →
      ∃ fin : List Bool, fin.length = n.nodes.length ∧ (∀ i : Nat, fin[i]? = some true ↔ Rch (EdgeB n back) a i) ∧ ∀ bx : List Box,
        ev cfg (.loop 51 3 ⟨(.dead :: .dead :: B back :: .ptr bx.length 0 :: .dead :: .dead :: .dead :: .own true 1 (boolR seen) :: .own true 1 (intR todo) :: .dead :: .dead :: .dead :: .dead :: .dead :: .dead :: .dead :: .dead :: .dead :: .dead :: .dead :: .dead :: .dead :: .dead :: .dead :: .dead :: .dead :: .dead :: .dead :: .dead :: .dead :: .dead :: .dead :: .dead :: .dead :: .dead :: .dead :: .dead :: .dead :: .dead :: .dead :: .dead :: .dead :: .dead :: .dead :: .dead :: .dead :: .dead :: .dead :: .dead :: .dead :: .dead :: .dead :: .dead :: .dead :: .dead :: .dead :: .dead :: .dead :: .dead :: .dead :: .dead :: .dead :: .dead :: .dead :: .dead :: .dead :: .dead :: .dead :: .dead :: []), bx ++ [[.dat N, .dat F]], bx.length, none, false⟩) =
        some (.loop (.exit 0) ⟨(.dead :: .dead :: .dead :: .dead :: .dead :: .dead :: .dead :: .own true 1 (boolR fin) :: .dead :: .dead :: .dead :: .dead :: .dead :: .dead :: .dead :: .dead :: .dead :: .dead :: .dead :: .dead :: .dead :: .dead :: .dead :: .dead :: .dead :: .dead :: .dead :: .dead :: .dead :: .dead :: .dead :: .dead :: .dead :: .dead :: .dead :: .dead :: .dead :: .dead :: .dead :: .dead :: .dead :: .dead :: .dead :: .dead :: .dead :: .dead :: .dead :: .dead :: .dead :: .dead :: .dead :: .dead :: .dead :: .dead :: .dead :: .dead :: .dead :: .dead :: .dead :: .dead :: .dead :: .dead :: .dead :: .dead :: .dead :: .dead :: .dead :: .dead :: .dead :: []), bx ++ [[.dat N, .dat F]], bx.length, none, false⟩) := by
    intro m
    induction m with
    | zero =>
      intro todo seen hi hm _
      have : todo = [] := List.length_eq_zero_iff.1 (by omega)
      subst this
      exact ⟨seen, hi.len, hi.done hE ha.1, fun bx => ev_step cfg (met_end o1 o2)⟩
    | succ m ih =>
      intro todo seen hi hm hle
      cases todo with
      | nil => exact ⟨seen, hi.len, hi.done hE ha.1, fun bx => ev_step cfg (met_end o1 o2)⟩
      | cons t todo =>
        have ht := hi.rng t List.mem_cons_self
        obtain ⟨q, rfl⟩ : ∃ q : Nat, t = q := ⟨t.toNat, by omega⟩
        have hq : q < seen.length := by rw [hi.len]; omega
        have hqq : ((q : Int)).toNat = q := by omega
        cases hs : seen[q] with
        | true =>
          have hs' : seen[q]? = some true := by rw [List.getElem?_eq_getElem hq, hs]
          obtain ⟨fin, w1, w2, w3⟩ := ih todo seen (hi.skip (by rw [hqq]; exact hs')) (by simp at hm; omega) (by omega)
          exact ⟨fin, w1, w2, fun bx => ev_step cfg ((met_skip (tr := intR todo) o1 o2 (boolR_get hs')).trans (w3 bx))⟩
        | false =>
          have hs' : seen[q]? = some false := by rw [List.getElem?_eq_getElem hq, hs]
          have hv := hi.visit hE
          rw [hqq] at hv
          have hu := unseen_set _ _ hs'
          have hnx : (n.flows.filterMap (nextF back q)).length ≤ n.flows.length := List.length_filterMap_le _ _
          have hmul : unseen seen * (n.flows.length + 1) = unseen (seen.set q true) * (n.flows.length + 1) + (n.flows.length + 1) := by rw [← hu, Nat.add_mul, Nat.one_mul]
          obtain ⟨fin, w1, w2, w3⟩ := ih _ _ hv (by simp at hm ⊢; omega) (by omega)
          refine ⟨fin, w1, w2, fun bx => ev_step cfg ((met_visit (tr := intR todo) (fin := intR (todo ++ n.flows.filterMap (nextF back q))) o1 hF (boolR_get hs') ?_).trans ?_)⟩
          · exact inner bx _ q n.flows 0 todo rfl (by simp at hm; omega)
          · rw [boolR_set]; exact w3 bx
  have hinit : MetInv n back a [a] (List.replicate n.nodes.length false) := by
    refine ⟨by simp, fun t ht => by rw [List.mem_singleton] at ht; subst ht; exact ha, fun i hi => ?_, fun t ht => by rw [List.mem_singleton] at ht; subst ht; exact .refl, fun i hi => ?_, .inl (List.mem_singleton.2 rfl)⟩
    · rw [List.getElem?_replicate] at hi; split at hi <;> simp at hi
    · rw [List.getElem?_replicate] at hi; split at hi <;> simp at hi
  have hu := unseen_le (List.replicate n.nodes.length false)
  rw [List.length_replicate] at hu
  have hmul : unseen (List.replicate n.nodes.length false) * (n.flows.length + 1) ≤ 1000 * 1001 := Nat.mul_le_mul (by omega) (by omega)
  obtain ⟨fin, w1, w2, w3⟩ := outer 2000000 [a] _ hinit (by simp; omega) (by omega)
  refine ⟨fin, w1, w2, fun bx => ev_step cfg (met_f hN o2 (by omega) ?_)⟩
  rw [hlen, boolR_rep]
  exact w3 bx

/-- a right process -/
def OkN (n : Nt) : Prop := n.nodes.length ≤ 24 ∧ n.flows.length ≤ 40 ∧ (∀ x ∈ n.nodes, rightN ofT x = true) ∧ (∀ f ∈ n.flows, leadsN ofT n f = true) ∧ (∀ i, i < n.nodes.length → thirdW n i = false) ∧ 0 ≤ startN n ∧ 0 ≤ endN n ∧
  ∀ i : Nat, i < n.nodes.length → Rch (EdgeB n false) (startN n) i ∧ Rch (EdgeB n true) (endN n) i

theorem leads_ends {n : Nt} (h : ∀ f ∈ n.flows, leadsN ofT n f = true) : Ends n := fun f hf => by
  have := h f hf
  simp only [leadsN, inN, Bool.and_eq_true, decide_eq_true_eq] at this
  omega

theorem filter_cons_iff {w : Nat → Bool} {m : Nat} : (List.range m).filter w = [] ↔ ∀ i, i < m → w i = false := by
  simp [List.filter_eq_nil_iff]

theorem plR_cons {r : Int} {ks : List Nat} (h : ks ≠ []) : ∃ q rs, plR r ks = [dI r, dI q] :: rs := by
  cases ks with
  | nil => exact absurd rfl h
  | cons k ks => exact ⟨k, plR r ks, rfl⟩

theorem ncheck_ev {n : Nt} {N F : D} (h : IsN n N F) (hfl : n.flows.length ≤ 1000) (hnd : n.nodes.length ≤ 1000) (hz : ∀ t ∈ termsN n, sizeT t ≤ 1000000) :
    ∃ r q : Int, (r = 0 ↔ OkN n) ∧ ∀ bx : List Box, ev cfg (.call 17 [.agg [.dat N, .dat F]] bx) = some (.ret (.tup [I r, I q]) none) := by
  obtain ⟨o1, o2⟩ := isN_one h
  have h0 := h
  obtain ⟨nr, fr, hN, hnr, _, hF, hfr, _⟩ := h
  have hlen : nr.length = n.nodes.length := hnr.1
  have hflen : fr.length = n.flows.length := hfr.1
  have done : ∀ (r q : Int) (rs : List (List D)), (r = 0 ↔ OkN n) → (∀ bx : List Box, ev cfg (.call 33 [.agg [.dat N, .dat F]] bx) = some (.ret (.own true 2 ([dI r, dI q] :: rs)) none)) →
      ∃ r q : Int, (r = 0 ↔ OkN n) ∧ ∀ bx : List Box, ev cfg (.call 17 [.agg [.dat N, .dat F]] bx) = some (.ret (.tup [I r, I q]) none) :=
    fun r q rs h1 h2 => ⟨r, q, h1, fun bx => ev_step cfg (check_1 o1 o2 h2)⟩
  by_cases hb : (decide ((nr.length : Int) > 24) || decide ((fr.length : Int) > 40)) = true
  · refine done 1 0 [] ⟨fun e => (by cases e), fun e => ?_⟩ fun bx => ev_step cfg (all_big hN hF hb)
    simp only [Bool.or_eq_true, decide_eq_true_eq] at hb
    obtain ⟨e1, e2, _⟩ := e
    omega
  have hb' := hb
  simp only [Bool.not_eq_true, Bool.or_eq_false_iff] at hb'
  obtain ⟨c1, c2⟩ := hb'
  have hn24 : n.nodes.length ≤ 24 ∧ n.flows.length ≤ 40 := by
    simp only [decide_eq_false_iff_not] at c1 c2; omega
  have hpl1 := fun bx : List Box => places_ev (g := 46) (cap := [bx.length]) 1 (m := n.nodes.length) (bx := bx ++ [[.dat N, .dat F]]) (fun p => !(match n.nodes[p]? with | some x => rightN ofT x | none => true)) (by simp) (by omega) fun p hp => by
    obtain ⟨row, hrow, _, _, op2, m2, K2, rfl, hT2⟩ := hnr.get hp
    have hm : n.nodes[p].t ∈ termsN n := List.mem_append_left _ (List.mem_map.2 ⟨_, List.getElem_mem hp, rfl⟩)
    have := all1_f (bx := bx ++ [[.dat N, .dat F]]) (l := bx.length) hN o2 (by simp) (by simp) hrow (isT_one hT2) fun bx => right_ev n.nodes[p] hT2 (hz _ hm) bx
    refine ev_step cfg (this.trans ?_)
    simp [hp]
  rw [← hlen] at hpl1
  have hall1 : (List.range nr.length).filter (fun p => !(match n.nodes[p]? with | some x => rightN ofT x | none => true)) = [] ↔ ∀ x ∈ n.nodes, rightN ofT x = true := by
    rw [filter_cons_iff, hlen]
    constructor
    · intro h x hx
      obtain ⟨i, hi, rfl⟩ := List.getElem_of_mem hx
      have := h i hi
      simpa [hi] using this
    · intro h i hi
      simp [hi, h]
  by_cases k1 : ¬((List.range nr.length).filter (fun p => !(match n.nodes[p]? with | some x => rightN ofT x | none => true)) = [])
  · obtain ⟨q, rs, e⟩ := plR_cons (r := 1) k1
    rw [e] at hpl1
    refine done 1 q rs ⟨fun e => (by cases e), fun e => absurd (hall1.2 e.2.2.1) k1⟩ fun bx => ev_step cfg (all_1 hN hF c1 c2 (by simp) (hpl1 bx))
  replace k1 := Classical.not_not.1 k1
  rw [k1] at hpl1
  have hpl2 := fun bx : List Box => places_ev (g := 48) (cap := [bx.length]) 2 (m := n.flows.length) (bx := bx ++ [[.dat N, .dat F]]) (fun p => !(match n.flows[p]? with | some x => leadsN ofT n x | none => true)) (by simp) (by omega) fun p hp => by
    obtain ⟨row, hrow, _, _, op2, m2, K2, rfl, hT2⟩ := hfr.get hp
    have hm : n.flows[p].c ∈ termsN n := List.mem_append_right _ (List.mem_map.2 ⟨_, List.getElem_mem hp, rfl⟩)
    have := all2_f (bx := bx ++ [[.dat N, .dat F]]) (l := bx.length) o1 hF (by simp) (by simp) hrow (isT_one hT2) fun bx => leads_ev h0 (by omega) n.flows[p] hT2 (hz _ hm) bx
    refine ev_step cfg (this.trans ?_)
    simp [hp]
  rw [← hflen] at hpl2
  have hall2 : (List.range fr.length).filter (fun p => !(match n.flows[p]? with | some x => leadsN ofT n x | none => true)) = [] ↔ ∀ x ∈ n.flows, leadsN ofT n x = true := by
    rw [filter_cons_iff, hflen]
    constructor
    · intro h x hx
      obtain ⟨i, hi, rfl⟩ := List.getElem_of_mem hx
      have := h i hi
      simpa [hi] using this
    · intro h i hi
      simp [hi, h]
  by_cases k2 : ¬((List.range fr.length).filter (fun p => !(match n.flows[p]? with | some x => leadsN ofT n x | none => true)) = [])
  · obtain ⟨q, rs, e⟩ := plR_cons (r := 2) k2
    rw [e] at hpl2
    refine done 2 q rs ⟨fun e => (by cases e), fun e => absurd (hall2.2 e.2.2.2.1) k2⟩ fun bx => ev_step cfg (all_2 hN hF c1 c2 (by simp) (hpl1 bx) (hpl2 bx))
  replace k2 := Classical.not_not.1 k2
  rw [k2] at hpl2
  have hEnds := leads_ends (hall2.1 k2)
  have h3 := fun bx : List Box => third_ev h0 (by omega) (by omega) hEnds bx
  by_cases k3 : ¬((∀ i, i < n.nodes.length → thirdW n i = false) ∧ 0 ≤ startN n ∧ 0 ≤ endN n)
  · have hne : ∃ q rs, plR 3 ((List.range n.nodes.length).filter (thirdW n)) ++ (if (decide (startN n < 0) || decide (endN n < 0)) = true then [[dI 3, dI n.nodes.length]] else []) = [dI 3, dI q] :: rs := by
      by_cases k4 : (List.range n.nodes.length).filter (thirdW n) = []
      · rw [k4]
        have : ¬ (0 ≤ startN n ∧ 0 ≤ endN n) := fun hh => k3 ⟨filter_cons_iff.1 k4, hh⟩
        rw [if_pos (by simp only [Bool.or_eq_true, decide_eq_true_eq]; omega)]
        exact ⟨n.nodes.length, [], rfl⟩
      · obtain ⟨q, rs, e⟩ := plR_cons (r := 3) k4
        rw [e]; exact ⟨q, _, rfl⟩
    obtain ⟨q, rs, e⟩ := hne
    rw [e] at h3
    exact done 3 q rs ⟨fun e => (by cases e), fun e => absurd ⟨e.2.2.2.2.1, e.2.2.2.2.2.1, e.2.2.2.2.2.2.1⟩ k3⟩ fun bx => ev_step cfg (all_3 hN hF c1 c2 (by simp) (hpl1 bx) (hpl2 bx) h3)
  replace k3 := Classical.not_not.1 k3
  obtain ⟨k3a, k3s, k3z⟩ := k3
  have e3 : plR 3 ((List.range n.nodes.length).filter (thirdW n)) ++ (if (decide (startN n < 0) || decide (endN n < 0)) = true then [[dI 3, dI n.nodes.length]] else []) = [] := by
    rw [filter_cons_iff.2 k3a, if_neg (by simp only [Bool.or_eq_true, decide_eq_true_eq]; omega)]; rfl
  rw [e3] at h3
  have hs : 0 ≤ startN n ∧ startN n < n.nodes.length := ⟨k3s, by have := firstK_ge 1 n.nodes 0; rw [startN] at k3s ⊢; omega⟩
  have he : 0 ≤ endN n ∧ endN n < n.nodes.length := ⟨k3z, by have := firstK_ge 2 n.nodes 0; rw [endN] at k3z ⊢; omega⟩
  obtain ⟨sr, s1, s2, s3⟩ := met_ev h0 (by omega) (by omega) hEnds false hs
  obtain ⟨tr, t1, t2, t3⟩ := met_ev h0 (by omega) (by omega) hEnds true he
  have hpl4 := fun bx : List Box => places_ev (g := 54) (cap := [bx.length + 1, bx.length + 2]) 4 (m := n.nodes.length) (bx := bx ++ [[.dat N, .dat F], [.dat (.sl 1 (boolR sr))], [.dat (.sl 1 (boolR tr))]]) (fun p => !(sr.getD p true) || !(tr.getD p true)) (by simp) (by omega) fun p hp => by
    have p1 : sr[p]? = some (sr.getD p true) := by simp [List.getD, s1, hp]
    have p2 : tr[p]? = some (tr.getD p true) := by simp [List.getD, t1, hp]
    have r1 := boolR_get p1
    have r2 := boolR_get p2
    have b1 : (bx ++ [[.dat N, .dat F], [.dat (.sl 1 (boolR sr))], [.dat (.sl 1 (boolR tr))]] : List Box)[bx.length + 1]? = some [.dat (.sl 1 (boolR sr))] := by simp
    have b2 : (bx ++ [[.dat N, .dat F], [.dat (.sl 1 (boolR sr))], [.dat (.sl 1 (boolR tr))]] : List Box)[bx.length + 2]? = some [.dat (.sl 1 (boolR tr))] := by simp
    have l1 : bx.length + 1 < (bx ++ [[.dat N, .dat F], [.dat (.sl 1 (boolR sr))], [.dat (.sl 1 (boolR tr))]] : List Box).length := by simp
    have l2 : bx.length + 2 < (bx ++ [[.dat N, .dat F], [.dat (.sl 1 (boolR sr))], [.dat (.sl 1 (boolR tr))]] : List Box).length := by simp
    generalize sr.getD p true = x at r1 ⊢
    generalize tr.getD p true = y at r2 ⊢
    exact ev_step cfg (all3_f l1 l2 b1 b2 r1 r2)
  rw [← hlen] at hpl4
  have hA : ∀ bx : List Box, ev cfg (.call 33 [.agg [.dat N, .dat F]] bx) = some (.ret (mkS 2 (plR 4 ((List.range nr.length).filter (fun p => !(sr.getD p true) || !(tr.getD p true))))) none) := by
    generalize (List.range nr.length).filter (fun p => !(sr.getD p true) || !(tr.getD p true)) = ks at hpl4
    intro bx
    have q1 := hpl1 bx
    have q2 := hpl2 bx
    have q4 := hpl4 bx
    have q5 := fun bx : List Box => start_ev h0 bx
    have q6 := fun bx : List Box => end_ev h0 bx
    exact ev_step cfg (all_4 (Z := mkS 2 (plR 4 ks)) (rs := plR 4 ks) (sr := boolR sr) (tr := boolR tr) (s := startN n) (z := endN n) hN hF c1 c2 rfl q1 q2 h3 q5 q6 s3 t3 q4)
  have hall4 : (List.range nr.length).filter (fun p => !(sr.getD p true) || !(tr.getD p true)) = [] ↔ ∀ i : Nat, i < n.nodes.length → Rch (EdgeB n false) (startN n) i ∧ Rch (EdgeB n true) (endN n) i := by
    rw [filter_cons_iff, hlen]
    refine forall_congr' fun i => forall_congr' fun hi => ?_
    have p1 : sr[i]? = some (sr.getD i true) := by simp [List.getD, s1, hi]
    have p2 : tr[i]? = some (tr.getD i true) := by simp [List.getD, t1, hi]
    rw [← s2 i, ← t2 i, p1, p2]
    cases sr.getD i true <;> cases tr.getD i true <;> simp
  by_cases k4 : (List.range nr.length).filter (fun p => !(sr.getD p true) || !(tr.getD p true)) = []
  · rw [k4] at hA
    exact ⟨0, 0, ⟨fun _ => ⟨hn24.1, hn24.2, hall1.1 k1, hall2.1 k2, k3a, k3s, k3z, hall4.1 k4⟩, fun _ => rfl⟩, fun bx => ev_step cfg (check_0 o1 o2 hA)⟩
  · obtain ⟨q, rs, e⟩ := plR_cons (r := 4) k4
    rw [e] at hA
    exact done 4 q rs ⟨fun e => (by cases e), fun e => absurd (hall4.2 e.2.2.2.2.2.2.2) k4⟩ hA

end Go.Proofs.YtifckjhggamefaaDoor
namespace Go.Proofs.YtifckjhggamefaaDoor
open Go Go.Vx
set_option maxHeartbeats 4000000
set_option maxRecDepth 10000

theorem ldeep_round {bx : List Box} {l : Nat} {m d : Int} {c : Box} {rows : List (List D)} {K K' : D} {i : Nat} {op n : Int} {res : Bool × Int} (hK : IsS 3 rows K) (hl : l < bx.length) (hb : bx[l]? = some [I m]) (hc : c.all (cellLt (bx.length + 1)) = true)
    (hget : rows[i]? = some [dI op, dI n, K']) (hlt : i < rows.length) (hmax : rows.length < 9223372036854775808) (hd : IntKind.wrap .i64 (d + 1) = d + 1) (hk : K'.oneC = true)
    (hcall : ∀ bx : List Box, bx[l]? = some [I m] → l < bx.length → ev cfg (.call 16 [.agg [I op, I n, .dat K'], .ptr l 0, I (d + 1)] bx) = some (.ret (B res.1) (some ⟨bx.set l [I res.2], l, false⟩))) :
    stepJ (ev cfg) cfg (.loop 16 5 ⟨(.dead :: .ptr l 0 :: I d :: .dead :: .dead :: .dead :: .dead :: .dead :: .dead :: .dead :: .dead :: .dead :: .dead :: .dead :: .dead :: .dead :: .dead :: .dead :: .dead :: .dead :: .dead :: .dead :: .dead :: .dead :: .dead :: .dead :: .dead :: .dead :: .dead :: .dead :: .dead :: .dead :: .dead :: .dat K :: I rows.length :: I i :: .dead :: .dead :: .dead :: .dead :: .dead :: .dead :: .dead :: .dead :: .dead :: []), bx ++ [c], bx.length, some l, false⟩) =
      if res.1 = true then some (.loop .ret ⟨(.dead :: .dead :: .dead :: .dead :: .dead :: .dead :: B true :: .dead :: .dead :: .dead :: .dead :: .dead :: .dead :: .dead :: .dead :: .dead :: .dead :: .dead :: .dead :: .dead :: .dead :: .dead :: .dead :: .dead :: .dead :: .dead :: .dead :: .dead :: .dead :: .dead :: .dead :: .dead :: .dead :: .dead :: .dead :: .dead :: .dead :: .dead :: .dead :: .dead :: .dead :: .dead :: .dead :: .dead :: .dead :: []), bx.set l [I res.2] ++ [c], bx.length, some l, false⟩)
      else ev cfg (.loop 16 5 ⟨(.dead :: .ptr l 0 :: I d :: .dead :: .dead :: .dead :: .dead :: .dead :: .dead :: .dead :: .dead :: .dead :: .dead :: .dead :: .dead :: .dead :: .dead :: .dead :: .dead :: .dead :: .dead :: .dead :: .dead :: .dead :: .dead :: .dead :: .dead :: .dead :: .dead :: .dead :: .dead :: .dead :: .dead :: .dat K :: I rows.length :: I ((i + 1 : Nat) : Int) :: .dead :: .dead :: .dead :: .dead :: .dead :: .dead :: .dead :: .dead :: .dead :: []), bx.set l [I res.2] ++ [c], bx.length, some l, false⟩) := by
  obtain ⟨w, h1, h2, h3⟩ := hK
  obtain rfl := isS_w h2 hget
  have hcall' : ∀ r : Box, ev cfg (.call 16 [.agg [I op, I n, .dat K'], .ptr l 0, I (d + 1)] (bx ++ [c, r])) = some (.ret (B res.1) (some ⟨bx.set l [I res.2] ++ [c, r], l, false⟩)) := by
    intro r
    rw [hcall _ (by rw [get_old hl]; exact hb) (by simp; omega), set_old hl]
  cases hres : res.1 <;> simp (maxSteps := 2000000) only [go_sem, Nat.reduceSub, Nat.reduceAdd, Nat.reduceMul, Nat.reduceLT, Nat.reduceLeDiff, Nat.reduceBEq, Nat.reduceEqDiff, Nat.reduceGT, Int.reduceToNat, Int.reduceLT, Int.reduceNeg, Int.reduceEq, Int.reduceBEq, Int.reduceBNe, Int.reduceLE, Int.reduceGT, Int.reduceGE, Int.reduceNe, Int.reduceAdd, Int.reduceSub, Int.reduceMul, reduceIte, ↓reduceIte, fn16, cx16, Tryd.f16, ti3, ti34, ti53, ti55, h1, h3, hk, nat_lt hlt, nat_neg, Int.toNat_natCast, hget, hd, hcall', hres, hl, hc, nat_succ hlt hmax, Nat.min_self]
theorem ldeep_end {bx : List Box} {l : Nat} {d : Int} {c : Box} {n i : Nat} {K : D} (hl : l < bx.length) (hc : c.all (cellLt (bx.length + 1)) = true) (hge : n ≤ i) :
    stepJ (ev cfg) cfg (.loop 16 5 ⟨(.dead :: .ptr l 0 :: I d :: .dead :: .dead :: .dead :: .dead :: .dead :: .dead :: .dead :: .dead :: .dead :: .dead :: .dead :: .dead :: .dead :: .dead :: .dead :: .dead :: .dead :: .dead :: .dead :: .dead :: .dead :: .dead :: .dead :: .dead :: .dead :: .dead :: .dead :: .dead :: .dead :: .dead :: .dat K :: I n :: I i :: .dead :: .dead :: .dead :: .dead :: .dead :: .dead :: .dead :: .dead :: .dead :: []), bx ++ [c], bx.length, some l, false⟩) = some (.loop (.exit 0) ⟨(.dead :: .dead :: .dead :: .dead :: .dead :: .dead :: .dead :: .dead :: .dead :: .dead :: .dead :: .dead :: .dead :: .dead :: .dead :: .dead :: .dead :: .dead :: .dead :: .dead :: .dead :: .dead :: .dead :: .dead :: .dead :: .dead :: .dead :: .dead :: .dead :: .dead :: .dead :: .dead :: .dead :: .dead :: .dead :: .dead :: .dead :: .dead :: .dead :: .dead :: .dead :: .dead :: .dead :: .dead :: .dead :: []), bx ++ [c], bx.length, some l, false⟩) := by
  simp (maxSteps := 2000000) only [go_sem, Nat.reduceSub, Nat.reduceAdd, Nat.reduceMul, Nat.reduceLT, Nat.reduceLeDiff, Nat.reduceBEq, Nat.reduceEqDiff, Nat.reduceGT, Int.reduceToNat, Int.reduceLT, Int.reduceNeg, Int.reduceEq, Int.reduceBEq, Int.reduceBNe, Int.reduceLE, Int.reduceGT, Int.reduceGE, Int.reduceNe, Int.reduceAdd, Int.reduceSub, Int.reduceMul, reduceIte, ↓reduceIte, fn16, cx16, Tryd.f16, ti3, ti34, ti53, ti55, nat_ge hge, hl, hc]
theorem ldeep_first {bx : List Box} {l : Nat} {m d : Int} {ks : List Trm} {op n : Int} {rows : List (List D)} {K : D} {res : Bool × Int} (hK : IsS 3 rows K) (hl : l < bx.length) (hb : bx[l]? = some [I m]) (hm : IntKind.wrap .i64 (m - 1) = m - 1) (hrl : rows.length = ks.length)
    (hloop : decide (m - 1 < 0) = false → decide (d > 40) = false → ∀ c : Box, c.all (cellLt (bx.length + 1)) = true → ev cfg (.loop 16 5 ⟨(.dead :: .ptr l 0 :: I d :: .dead :: .dead :: .dead :: .dead :: .dead :: .dead :: .dead :: .dead :: .dead :: .dead :: .dead :: .dead :: .dead :: .dead :: .dead :: .dead :: .dead :: .dead :: .dead :: .dead :: .dead :: .dead :: .dead :: .dead :: .dead :: .dead :: .dead :: .dead :: .dead :: .dead :: .dat K :: I rows.length :: I 0 :: .dead :: .dead :: .dead :: .dead :: .dead :: .dead :: .dead :: .dead :: .dead :: []), bx.set l [I (m - 1)] ++ [c], bx.length, some l, false⟩) =
      some (if res.1 = true then .loop .ret ⟨(.dead :: .dead :: .dead :: .dead :: .dead :: .dead :: B true :: .dead :: .dead :: .dead :: .dead :: .dead :: .dead :: .dead :: .dead :: .dead :: .dead :: .dead :: .dead :: .dead :: .dead :: .dead :: .dead :: .dead :: .dead :: .dead :: .dead :: .dead :: .dead :: .dead :: .dead :: .dead :: .dead :: .dead :: .dead :: .dead :: .dead :: .dead :: .dead :: .dead :: .dead :: .dead :: .dead :: .dead :: .dead :: []), bx.set l [I res.2] ++ [c], bx.length, some l, false⟩ else .loop (.exit 0) ⟨(.dead :: .dead :: .dead :: .dead :: .dead :: .dead :: .dead :: .dead :: .dead :: .dead :: .dead :: .dead :: .dead :: .dead :: .dead :: .dead :: .dead :: .dead :: .dead :: .dead :: .dead :: .dead :: .dead :: .dead :: .dead :: .dead :: .dead :: .dead :: .dead :: .dead :: .dead :: .dead :: .dead :: .dead :: .dead :: .dead :: .dead :: .dead :: .dead :: .dead :: .dead :: .dead :: .dead :: .dead :: .dead :: []), bx.set l [I res.2] ++ [c], bx.length, some l, false⟩)) :
    stepJ (ev cfg) cfg (.call 16 [.agg [I op, I n, .dat K], .ptr l 0, I d] bx) =
      if (decide (m - 1 < 0) || decide (d > 40) || decide ((ks.length : Int) > 50)) = true then some (.ret (B true) (some ⟨bx.set l [I (m - 1)], l, false⟩)) else some (.ret (B res.1) (some ⟨bx.set l [I res.2], l, false⟩)) := by
  obtain ⟨w, h1, h2, h3⟩ := hK
  cases c1 : decide (m - 1 < 0)
  · cases c2 : decide (d > 40)
    · cases c3 : decide ((ks.length : Int) > 50)
      · have hloop' := hloop c1 c2 [I op, I n, .dat K] (by simp [cellLt])
        cases hres : res.1 <;> simp only [hres, if_true, if_false, Bool.false_eq_true] at hloop' <;> simp (maxSteps := 2000000) only [go_sem, Nat.reduceSub, Nat.reduceAdd, Nat.reduceMul, Nat.reduceLT, Nat.reduceLeDiff, Nat.reduceBEq, Nat.reduceEqDiff, Nat.reduceGT, Int.reduceToNat, Int.reduceLT, Int.reduceNeg, Int.reduceEq, Int.reduceBEq, Int.reduceBNe, Int.reduceLE, Int.reduceGT, Int.reduceGE, Int.reduceNe, Int.reduceAdd, Int.reduceSub, Int.reduceMul, reduceIte, ↓reduceIte, fn16, cx16, Tryd.f16, ti3, ti34, ti53, ti55, h1, h3, hl, hb, hm, hrl, c1, c2, c3, hres] at hloop' ⊢ <;> simp only [hloop', go_sem, Nat.reduceSub, Nat.reduceAdd, Nat.reduceMul, Nat.reduceLT, Nat.reduceLeDiff, Nat.reduceBEq, Nat.reduceEqDiff, Nat.reduceGT, Int.reduceToNat, Int.reduceLT, Int.reduceNeg, Int.reduceEq, Int.reduceBEq, Int.reduceBNe, Int.reduceLE, Int.reduceGT, Int.reduceGE, Int.reduceNe, Int.reduceAdd, Int.reduceSub, Int.reduceMul, reduceIte, ↓reduceIte]
      · simp (maxSteps := 2000000) only [go_sem, Nat.reduceSub, Nat.reduceAdd, Nat.reduceMul, Nat.reduceLT, Nat.reduceLeDiff, Nat.reduceBEq, Nat.reduceEqDiff, Nat.reduceGT, Int.reduceToNat, Int.reduceLT, Int.reduceNeg, Int.reduceEq, Int.reduceBEq, Int.reduceBNe, Int.reduceLE, Int.reduceGT, Int.reduceGE, Int.reduceNe, Int.reduceAdd, Int.reduceSub, Int.reduceMul, reduceIte, ↓reduceIte, fn16, cx16, Tryd.f16, ti3, ti34, ti53, ti55, h1, h3, hl, hb, hm, hrl, c1, c2, c3]
    · simp (maxSteps := 2000000) only [go_sem, Nat.reduceSub, Nat.reduceAdd, Nat.reduceMul, Nat.reduceLT, Nat.reduceLeDiff, Nat.reduceBEq, Nat.reduceEqDiff, Nat.reduceGT, Int.reduceToNat, Int.reduceLT, Int.reduceNeg, Int.reduceEq, Int.reduceBEq, Int.reduceBNe, Int.reduceLE, Int.reduceGT, Int.reduceGE, Int.reduceNe, Int.reduceAdd, Int.reduceSub, Int.reduceMul, reduceIte, ↓reduceIte, fn16, cx16, Tryd.f16, ti3, ti34, ti53, ti55, h1, h3, hl, hb, hm, hrl, c1, c2]
  · simp (maxSteps := 2000000) only [go_sem, Nat.reduceSub, Nat.reduceAdd, Nat.reduceMul, Nat.reduceLT, Nat.reduceLeDiff, Nat.reduceBEq, Nat.reduceEqDiff, Nat.reduceGT, Int.reduceToNat, Int.reduceLT, Int.reduceNeg, Int.reduceEq, Int.reduceBEq, Int.reduceBNe, Int.reduceLE, Int.reduceGT, Int.reduceGE, Int.reduceNe, Int.reduceAdd, Int.reduceSub, Int.reduceMul, reduceIte, ↓reduceIte, fn16, cx16, Tryd.f16, ti3, ti34, ti53, ti55, h1, h3, hl, hb, hm, hrl, c1]

theorem ldeep_ev : ∀ (b : Trm) {op n : Int} {K : D} {m d : Int} {l : Nat} {bx : List Box}, IsT b op n K → -1 ≤ m → m ≤ 1000000 → 0 ≤ d → d ≤ 41 → bx[l]? = some [I m] →
    ev cfg (.call 16 [.agg [I op, I n, .dat K], .ptr l 0, I d] bx) = some (.ret (B (lgT m d b).1) (some ⟨bx.set l [I (lgT m d b).2], l, false⟩))
  | .mk op n ks, _, _, K, m, d, l, bx, h, hm, hm2, hd, hd2, hb => by
    rw [IsT] at h
    obtain ⟨rfl, rfl, _, _, rows, hK, hks, hmax⟩ := h
    have hl : l < bx.length := (List.getElem?_eq_some_iff.1 hb).1
    apply ev_step
    rw [ldeep_first (res := lgT.lgs (m - 1) (d + 1) ks) hK hl hb (wrap_lo (by omega) (by omega)) (isTs_len hks) ?_]
    · rw [lgT]; split <;> rfl
    · intro c1 c2 c hc
      have := loop ks (bx := bx.set l [I (m - 1)]) (d := d) (l := l) (m := m - 1) (i := 0) (c := c) hK rfl hks (by rw [(isTs_len hks)]; exact hmax) (by simp at c1; omega) (by omega) hd (by simpa using c2) (by simp [hl]) (by simpa using hc)
      simp only [List.length_set, List.set_set] at this
      exact this
where
  loop : ∀ (bs : List Trm) {rows rs : List (List D)} {K : D} {m d : Int} {l i : Nat} {bx : List Box} {c : Box}, IsS 3 rows K → rows.drop i = rs → IsT.IsTs bs rs → rows.length < 9223372036854775808 → -1 ≤ m → m ≤ 1000000 → 0 ≤ d → d ≤ 40 → bx[l]? = some [I m] → c.all (cellLt (bx.length + 1)) = true →
    ev cfg (.loop 16 5 ⟨(.dead :: .ptr l 0 :: I d :: .dead :: .dead :: .dead :: .dead :: .dead :: .dead :: .dead :: .dead :: .dead :: .dead :: .dead :: .dead :: .dead :: .dead :: .dead :: .dead :: .dead :: .dead :: .dead :: .dead :: .dead :: .dead :: .dead :: .dead :: .dead :: .dead :: .dead :: .dead :: .dead :: .dead :: .dat K :: I rows.length :: I i :: .dead :: .dead :: .dead :: .dead :: .dead :: .dead :: .dead :: .dead :: .dead :: []), bx ++ [c], bx.length, some l, false⟩) =
      some (if (lgT.lgs m (d + 1) bs).1 = true then .loop .ret ⟨(.dead :: .dead :: .dead :: .dead :: .dead :: .dead :: B true :: .dead :: .dead :: .dead :: .dead :: .dead :: .dead :: .dead :: .dead :: .dead :: .dead :: .dead :: .dead :: .dead :: .dead :: .dead :: .dead :: .dead :: .dead :: .dead :: .dead :: .dead :: .dead :: .dead :: .dead :: .dead :: .dead :: .dead :: .dead :: .dead :: .dead :: .dead :: .dead :: .dead :: .dead :: .dead :: .dead :: .dead :: .dead :: []), bx.set l [I (lgT.lgs m (d + 1) bs).2] ++ [c], bx.length, some l, false⟩
      else .loop (.exit 0) ⟨(.dead :: .dead :: .dead :: .dead :: .dead :: .dead :: .dead :: .dead :: .dead :: .dead :: .dead :: .dead :: .dead :: .dead :: .dead :: .dead :: .dead :: .dead :: .dead :: .dead :: .dead :: .dead :: .dead :: .dead :: .dead :: .dead :: .dead :: .dead :: .dead :: .dead :: .dead :: .dead :: .dead :: .dead :: .dead :: .dead :: .dead :: .dead :: .dead :: .dead :: .dead :: .dead :: .dead :: .dead :: .dead :: []), bx.set l [I (lgT.lgs m (d + 1) bs).2] ++ [c], bx.length, some l, false⟩)
  | [], rows, rs, K, m, d, l, i, bx, c, hK, hr, hbs, hmax, hm, hm2, hd, hd2, hb, hc => by
    have hl : l < bx.length := (List.getElem?_eq_some_iff.1 hb).1
    rw [IsT.IsTs] at hbs
    subst hbs
    simp only [lgT.lgs, Bool.false_eq_true, if_false]
    apply ev_step
    rw [ldeep_end hl hc (drop_nil hr), set_same hb]
  | b :: bs, rows, rs, K, m, d, l, i, bx, c, hK, hr, hbs, hmax, hm, hm2, hd, hd2, hb, hc => by
    have hl : l < bx.length := (List.getElem?_eq_some_iff.1 hb).1
    rw [IsT.IsTs] at hbs
    obtain ⟨op, n, K', rest, rfl, hB, hrest⟩ := hbs
    obtain ⟨hget, hr', hlt⟩ := drop_cons hr
    have hb1 := fun (bx' : List Box) (h : bx'[l]? = some [I m]) (_ : l < bx'.length) => ldeep_ev b (d := d + 1) hB hm hm2 (by omega) (by omega) h
    have hst := ldeep_round (res := lgT m (d + 1) b) (d := d) hK hl hb hc hget hlt hmax (wrap_lo (by omega) (by omega)) (isT_one hB) hb1
    rw [lgT.lgs]
    by_cases hres : (lgT m (d + 1) b).1 = true
    · rw [if_pos hres] at hst
      rw [if_pos hres, if_pos rfl]
      exact ev_step cfg hst
    · rw [if_neg hres] at hst
      rw [if_neg hres]
      have hge := lgT_ge b m (d + 1)
      have := loop bs (bx := bx.set l [I (lgT m (d + 1) b).2]) (l := l) (m := (lgT m (d + 1) b).2) (i := i + 1) (d := d) (c := c) hK hr' hrest hmax (lgT_lo b m (d + 1) hres) (by omega) hd hd2 (by simp [hl]) (by simpa using hc)
      simp only [List.length_set, List.set_set] at this
      exact ev_step cfg (hst.trans this)

end Go.Proofs.YtifckjhggamefaaDoor
namespace Go.Proofs.YtifckjhggamefaaDoor
open Go Go.Vx
set_option maxRecDepth 10000
set_option maxHeartbeats 1000000

def nodeL (n : Nt) (k nd : Int) : List Int := if k = 6 then (outsN n nd).map (toN n) ++ [nd] else if k = 2 ∨ k = 4 ∨ k = 5 ∨ k = 7 ∨ k = 8 then [nd] else []
def nodesB (n : Nt) : Blk → List Int
  | .mk k nd _ ks _ => nodeL n k nd ++ go ks
where
  go : List Blk → List Int
  | [] => []
  | b :: bs => nodesB n b ++ go bs

abbrev upd (bx : List Box) (l : Nat) (acc xs : List Int) : List Box := if (!xs.isEmpty) = true then bx.set l [mkS 1 (intR (acc ++ xs))] else bx
abbrev updL (lo : Option Nat) (l : Nat) (xs : List Int) : Option Nat := if (!xs.isEmpty) = true then some l else lo
theorem upd_len (bx : List Box) (l : Nat) (acc xs : List Int) : (upd bx l acc xs).length = bx.length := by unfold upd; split <;> simp
theorem upd_get {bx : List Box} {l : Nat} {acc : List Int} (h : bx[l]? = some [mkS 1 (intR acc)]) (xs : List Int) : (upd bx l acc xs)[l]? = some [mkS 1 (intR (acc ++ xs))] := by
  have hl : l < bx.length := (List.getElem?_eq_some_iff.1 h).1
  unfold upd
  cases xs with
  | nil => simpa using h
  | cons x xs => simp [hl]
theorem upd_ne {bx : List Box} {l l0 : Nat} {b : Box} (hne : l ≠ l0) (h : bx[l0]? = some b) (acc xs : List Int) : (upd bx l acc xs)[l0]? = some b := by
  unfold upd
  split
  · rw [List.getElem?_set_ne hne]; exact h
  · exact h
theorem upd_upd (bx : List Box) (l : Nat) (acc xs ys : List Int) : upd (upd bx l acc xs) l (acc ++ xs) ys = upd bx l acc (xs ++ ys) := by
  unfold upd
  cases xs with
  | nil => simp
  | cons x xs =>
    cases ys with
    | nil => simp
    | cons y ys => simp
theorem updL_updL (lo : Option Nat) (l : Nat) (xs ys : List Int) : updL (updL lo l xs) l ys = updL lo l (xs ++ ys) := by
  unfold updL
  cases xs <;> cases ys <;> simp

theorem nodeL_len {n : Nt} (hf : n.flows.length ≤ 1000) (k nd : Int) : (nodeL n k nd).length ≤ 1001 := by
  unfold nodeL
  split
  · have := idxs_len (fun f : Fl => f.fr == nd) n.flows 0
    rw [List.length_append, List.length_map]
    simp only [outsN, List.length_singleton]
    omega
  · split <;> simp

theorem box_ne {bx : List Box} {l l0 : Nat} {u : PV} {p q : PV} (h0 : bx[l0]? = some [p, q]) (h : bx[l]? = some [u]) : l ≠ l0 := by
  rintro rfl
  rw [h0] at h
  simp at h

theorem outs_flow {n : Nt} {nd : Int} {j : Nat} (h : j ∈ outsN n nd) : j < n.flows.length := outs_lt h

theorem nodes1_loop {n : Nt} {N F : D} (h : IsN n N F) (hsz : n.flows.length ≤ 1000) (nd : Int) {l l0 : Nat} (hne : l ≠ l0) : ∀ (os : List Nat) (i : Nat) (acc : List Int) (bx : List Box) (lo : Option Nat) (c : Box), (outsN n nd).drop i = os → acc.length + os.length ≤ 1000000000 →
    bx[l0]? = some [.dat N, .dat F] → bx[l]? = some [mkS 1 (intR acc)] → (lo = none ∨ lo = some l) → c.all (cellLt (bx.length + 1)) = true →
    ev cfg (.loop 38 9 ⟨(.dead :: .ptr l0 0 :: .ptr l 0 :: .ptr bx.length 0 :: .dead :: .dead :: .dead :: .dead :: .dead :: .dead :: .dead :: .dead :: .dead :: .dead :: .dead :: .dead :: .dead :: .dead :: .dead :: .dat (mkD 1 (natR (outsN n nd))) :: I (natR (outsN n nd)).length :: I i :: .dead :: .dead :: .dead :: .dead :: .dead :: .dead :: .dead :: .dead :: .dead :: .dead :: .dead :: .dead :: .dead :: .dead :: .dead :: .dead :: .dead :: .dead :: []), bx ++ [c], bx.length, lo, false⟩) =
      some (.loop (.exit 3) ⟨(.dead :: .dead :: .ptr l 0 :: .ptr bx.length 0 :: .dead :: .dead :: .dead :: .dead :: .dead :: .dead :: .dead :: .dead :: .dead :: .dead :: .dead :: .dead :: .dead :: .dead :: .dead :: .dead :: .dead :: .dead :: .dead :: .dead :: .dead :: .dead :: .dead :: .dead :: .dead :: .dead :: .dead :: .dead :: .dead :: .dead :: .dead :: .dead :: .dead :: .dead :: .dead :: .dead :: []), upd bx l acc (os.map (toN n)) ++ [c], bx.length, updL lo l (os.map (toN n)), false⟩) := by
  have hh := h
  obtain ⟨oN, _⟩ := isN_one h
  obtain ⟨nr, fr, hN, _, _, hF, hfr, hmax⟩ := h
  intro os
  induction os with
  | nil =>
    intro i acc bx lo c hd hs b0 b1 hlo hc
    have hl0 : l0 < bx.length := (List.getElem?_eq_some_iff.1 b0).1
    have hl : l < bx.length := (List.getElem?_eq_some_iff.1 b1).1
    exact ev_step cfg (nodes1_end (mkD_one _ _) hl0 hl hc (by rw [natR_len]; exact drop_nil hd) lo)
  | cons j os ih =>
    intro i acc bx lo c hd hs b0 b1 hlo hc
    have hl0 : l0 < bx.length := (List.getElem?_eq_some_iff.1 b0).1
    have hl : l < bx.length := (List.getElem?_eq_some_iff.1 b1).1
    obtain ⟨hget, hd', hlt⟩ := drop_cons hd
    have hj : j < n.flows.length := outs_flow (nd := nd) (List.mem_of_getElem? hget)
    obtain ⟨row, hrow, _, _, op, m, K, rfl, hT⟩ := hfr.get hj
    have hg : (natR (outsN n nd))[i]? = some [dI (j : Nat)] := by simp [natR, hget]
    have hm : (natR (outsN n nd)).length < 9223372036854775808 := by
      have := idxs_len (fun f : Fl => f.fr == nd) n.flows 0
      rw [natR_len]; simp only [outsN]; omega
    have hx : (natR (outsN n nd)).length = (outsN n nd).length := natR_len _
    have to : toN n j = n.flows[j].to := to_at hj
    simp only [List.length_cons] at hs
    have rest := ih (i + 1) (acc ++ [toN n j]) (bx.set l [mkS 1 (intR (acc ++ [toN n j]))]) (some l) c hd' (by simp; omega) (by rw [List.getElem?_set_ne hne]; exact b0) (by simp [hl]) (.inr rfl) (by simpa using hc)
    simp only [List.length_set] at rest
    have e1 : upd (bx.set l [mkS 1 (intR (acc ++ [toN n j]))]) l (acc ++ [toN n j]) (os.map (toN n)) = upd bx l acc ((j :: os).map (toN n)) := by
      have := upd_upd bx l acc [toN n j] (os.map (toN n))
      simpa [upd] using this
    have e2 : updL (some l) l (os.map (toN n)) = updL lo l ((j :: os).map (toN n)) := by
      unfold updL; cases os <;> simp
    rw [e1, e2] at rest
    refine ev_step cfg (Eq.trans ?_ rest)
    cases acc with
    | nil =>
      refine (nodes1_round0 hF oN (mkD_is _ _) hl0 hl b0 hc hg hrow (by rw [hx]; exact hlt) hm lo hlo b1).trans ?_
      rw [to]; rfl
    | cons a acc =>
      refine (nodes1_round1 (acc := intR (a :: acc)) hF oN (mkD_is _ _) hl0 hl b0 hc hg hrow (by rw [hx]; exact hlt) hm lo hlo (by rw [intR_len]; simp at hs ⊢; omega) b1).trans ?_
      have e : (.own true 1 (intR (a :: acc) ++ [[dI n.flows[j].to]]) : PV) = mkS 1 (intR (a :: acc ++ [n.flows[j].to])) := by rw [intR_app]; rfl
      rw [to, e]

theorem nodes1_ev {n : Nt} {N F : D} (h : IsN n N F) (hsz : n.flows.length ≤ 1000) {k nd a : Int} {K L : D} (oK : K.oneC = true) (oL : L.oneC = true) {bx : List Box} {l l0 : Nat} {acc : List Int} (hs : acc.length + 1001 ≤ 1000000000)
    (b0 : bx[l0]? = some [.dat N, .dat F]) (b1 : bx[l]? = some [mkS 1 (intR acc)]) :
    ev cfg (.call 38 [.agg [I k, I nd, I a, .dat K, .dat L], .ptr l0 0, .ptr l 0] bx) = some (.ret (.tup []) (if (!(nodeL n k nd).isEmpty) = true then some ⟨bx.set l [mkS 1 (intR (acc ++ nodeL n k nd))], l, false⟩ else none)) := by
  have hl0 : l0 < bx.length := (List.getElem?_eq_some_iff.1 b0).1
  have hl : l < bx.length := (List.getElem?_eq_some_iff.1 b1).1
  have hne := box_ne b0 b1
  obtain ⟨oN, oF⟩ := isN_one h
  have hks : ((intR acc).length + 1) * 8 ≤ 140737488355328 := by rw [intR_len]; omega
  have one : ∀ (r : List Int), r = [nd] → nodeL n k nd = r → ev cfg (.call 38 [.agg [I k, I nd, I a, .dat K, .dat L], .ptr l0 0, .ptr l 0] bx) = some (.ret (.tup []) (some ⟨bx.set l [mkS 1 (intR (acc ++ [nd]))], l, false⟩)) → ev cfg (.call 38 [.agg [I k, I nd, I a, .dat K, .dat L], .ptr l0 0, .ptr l 0] bx) = some (.ret (.tup []) (if (!(nodeL n k nd).isEmpty) = true then some ⟨bx.set l [mkS 1 (intR (acc ++ nodeL n k nd))], l, false⟩ else none)) := by
    intro r hr hn he
    rw [hn, hr]
    exact he
  have snoc : ∀ (a' : Int) (zs : List Int), (.own true 1 (intR (a' :: zs) ++ [[dI nd]]) : PV) = mkS 1 (intR ((a' :: zs) ++ [nd])) := fun a' zs => by rw [intR_app]; rfl
  by_cases k6 : k = 6
  · subst k6
    have e : nodeL n 6 nd = (outsN n nd).map (toN n) ++ [nd] := by rw [nodeL, if_pos rfl]
    rw [e]
    have hne2 : (!((outsN n nd).map (toN n) ++ [nd]).isEmpty) = true := by simp
    rw [if_pos hne2, ← List.append_assoc]
    have hl' := nodes1_loop h hsz nd hne (outsN n nd) 0 acc bx none
    have hlen : (outsN n nd).length ≤ 1000 := by
      have := idxs_len (fun f : Fl => f.fr == nd) n.flows 0
      simp only [outsN]; omega
    have hloop := fun (c : Box) (hc : c.all (cellLt (bx.length + 1)) = true) => hl' c rfl (by omega) b0 b1 (.inl rfl) hc
    have hO := fun bx : List Box => outs_ev h (by omega) nd bx
    cases ho : (outsN n nd).map (toN n) with
    | nil =>
      rw [ho] at hloop
      cases acc with
      | nil => exact ev_step cfg (nodes1_k6_0 oF oN (mkD_is _ _) oK oL hl0 hl b0 b1 hO hloop)
      | cons a' zs =>
        rw [List.append_nil, ← snoc]
        exact ev_step cfg (nodes1_k6_1 (acc := intR (a' :: zs)) oF oN (mkD_is _ _) oK oL hl0 hl hks b0 b1 hO hloop)
    | cons o os =>
      rw [ho] at hloop
      have hne3 : ∃ z zs, acc ++ o :: os = z :: zs := by cases acc <;> simp
      obtain ⟨z, zs, hz⟩ := hne3
      have hu : ∀ lo, upd bx l acc (o :: os) = bx.set l [.own true 1 (intR (acc ++ o :: os))] ∧ updL lo l (o :: os) = some l := fun lo => by
        refine ⟨?_, by simp [updL]⟩
        unfold upd; rw [hz]; rfl
      have hol : (o :: os).length ≤ 1000 := by rw [← ho, List.length_map]; exact hlen
      rw [(hu none).1, (hu none).2] at hloop
      have := nodes1_k6_2 (u := mkS 1 (intR acc)) (acc2 := intR (acc ++ o :: os)) (a := a) oF oN (mkD_is _ _) oK oL hl0 hl (by rw [intR_len, List.length_append]; omega) b0 b1 hO hloop
      rw [hz, snoc] at this
      rw [hz]
      exact ev_step cfg this
  · by_cases k2 : k = 2
    · subst k2
      refine one _ rfl (by rw [nodeL, if_neg (by decide), if_pos (by decide)]) ?_
      cases acc with
      | nil => exact ev_step cfg (nodes1_k2_0 oK oL hl0 hl b1)
      | cons a' zs => rw [← snoc]; exact ev_step cfg (nodes1_k2_1 (acc := intR (a' :: zs)) oK oL hl0 hl hks b1)
    by_cases k4 : k = 4
    · subst k4
      refine one _ rfl (by rw [nodeL, if_neg (by decide), if_pos (by decide)]) ?_
      cases acc with
      | nil => exact ev_step cfg (nodes1_k4_0 oK oL hl0 hl b1)
      | cons a' zs => rw [← snoc]; exact ev_step cfg (nodes1_k4_1 (acc := intR (a' :: zs)) oK oL hl0 hl hks b1)
    by_cases k5 : k = 5
    · subst k5
      refine one _ rfl (by rw [nodeL, if_neg (by decide), if_pos (by decide)]) ?_
      cases acc with
      | nil => exact ev_step cfg (nodes1_k5_0 oK oL hl0 hl b1)
      | cons a' zs => rw [← snoc]; exact ev_step cfg (nodes1_k5_1 (acc := intR (a' :: zs)) oK oL hl0 hl hks b1)
    by_cases k7 : k = 7
    · subst k7
      refine one _ rfl (by rw [nodeL, if_neg (by decide), if_pos (by decide)]) ?_
      cases acc with
      | nil => exact ev_step cfg (nodes1_k7_0 oK oL hl0 hl b1)
      | cons a' zs => rw [← snoc]; exact ev_step cfg (nodes1_k7_1 (acc := intR (a' :: zs)) oK oL hl0 hl hks b1)
    by_cases k8 : k = 8
    · subst k8
      refine one _ rfl (by rw [nodeL, if_neg (by decide), if_pos (by decide)]) ?_
      cases acc with
      | nil => exact ev_step cfg (nodes1_k8_0 oK oL hl0 hl b1)
      | cons a' zs => rw [← snoc]; exact ev_step cfg (nodes1_k8_1 (acc := intR (a' :: zs)) oK oL hl0 hl hks b1)
    · have e : nodeL n k nd = [] := by rw [nodeL, if_neg k6, if_neg (by simp [k2, k4, k5, k7, k8])]
      rw [e, if_neg (by simp)]
      exact ev_step cfg (nodes1_o oK oL hl0 hl (by simpa using k6) (by simpa using k2) (by simpa using k4) (by simpa using k5) (by simpa using k7) (by simpa using k8))

theorem nodesB_len {n : Nt} (hf : n.flows.length ≤ 1000) : ∀ b : Blk, ((nodesB n b).length : Int) ≤ 1001 * sizeB b
  | .mk k nd a ks ls => by
    have h1 := nodeL_len hf k nd
    have h2 := go ks
    rw [nodesB, sizeB, List.length_append]
    omega
where
  go : ∀ bs : List Blk, ((nodesB.go n bs).length : Int) ≤ 1001 * sizeB.go bs
  | [] => by rw [nodesB.go, sizeB.go]; simp
  | b :: bs => by
    have h1 := nodesB_len hf b
    have h2 := go bs
    rw [nodesB.go, sizeB.go, List.length_append]
    omega

theorem cap_two {l l0 m : Nat} (h0 : l0 < m) (h : l < m) : ([l0, l].all fun l => decide (l < m + 1)) = true := by
  simp; omega

theorem eachN_ev {n : Nt} {N F : D} (h : IsN n N F) (hsz : n.flows.length ≤ 1000) {l l0 : Nat} (hne : l ≠ l0) : ∀ (b : Blk) {k nd a : Int} {K L : D} {bx : List Box} {acc : List Int}, IsB b k nd a K L → (acc.length : Int) + 1001 * sizeB b ≤ 1000000000 →
    bx[l0]? = some [.dat N, .dat F] → bx[l]? = some [mkS 1 (intR acc)] →
    ev cfg (.call 30 [.agg [I k, I nd, I a, .dat K, .dat L], .clo 38 [l0, l]] bx) = some (.ret (.tup []) (if (!(nodesB n b).isEmpty) = true then some ⟨bx.set l [mkS 1 (intR (acc ++ nodesB n b))], l, false⟩ else none))
  | .mk _ _ _ ks ls, k, nd, a, K, L, bx, acc, hB, hs, b0, b1 => by
    rw [IsB] at hB
    obtain ⟨rfl, rfl, rfl, _, _, _, rows, hK, hks, hmax, hL, _, _⟩ := hB
    have oK : K.oneC = true := by obtain ⟨_, _, _, h3⟩ := hK; exact h3
    have oL : L.oneC = true := by obtain ⟨_, _, _, h3⟩ := hL; exact h3
    have hl0 : l0 < bx.length := (List.getElem?_eq_some_iff.1 b0).1
    have hl : l < bx.length := (List.getElem?_eq_some_iff.1 b1).1
    rw [sizeB] at hs
    have hp := sizeB_pos.go ks
    have hnl := nodeL_len hsz k nd
    have := eachc_f (u := [mkS 1 (intR (acc ++ nodeL n k nd))]) (u2 := [mkS 1 (intR (acc ++ nodesB n (.mk k nd a ks ls)))]) (k := k) (n := nd) (a := a) (bx := bx) (!(nodeL n k nd).isEmpty) (!(nodesB n (.mk k nd a ks ls)).isEmpty) (cap_two hl0 hl) hK hL hl (g := 38)
      (fun r => by
        have h1 := nodes1_ev h hsz (k := k) (nd := nd) (a := a) oK oL (bx := bx ++ [r]) (l := l) (l0 := l0) (acc := acc) (by omega) (by rw [get_old hl0]; exact b0) (by rw [get_old hl]; exact b1)
        rw [set_old hl] at h1
        exact h1)
      (fun c hc => by
        have h1 := loop ks (bx := upd bx l acc (nodeL n k nd)) (acc := acc ++ nodeL n k nd) (i := 0) (c := c) hK rfl hks (by rw [isBs_len hks]; exact hmax) (by rw [List.length_append]; push_cast; omega) (upd_ne hne b0 _ _) (upd_get b1 _) (by rw [upd_len]; exact hc) (updL none l (nodeL n k nd)) (by unfold updL; split <;> simp)
        rw [upd_len, upd_upd, updL_updL] at h1
        rw [nodesB]
        exact h1)
    exact ev_step cfg this
where
  loop : ∀ (bs : List Blk) {rows rs : List (List D)} {K : D} {acc : List Int} {i : Nat} {bx : List Box} {c : Box}, IsS 5 rows K → rows.drop i = rs → IsB.IsBs bs rs → rows.length < 9223372036854775808 → (acc.length : Int) + 1001 * sizeB.go bs ≤ 1000000000 →
    bx[l0]? = some [.dat N, .dat F] → bx[l]? = some [mkS 1 (intR acc)] → c.all (cellLt (bx.length + 1)) = true → ∀ lo : Option Nat, lo = none ∨ lo = some l →
    ev cfg (.loop 30 3 ⟨(.dead :: .clo 38 [l0, l] :: .dead :: .dead :: .dead :: .dead :: .dead :: .dead :: .dead :: .dead :: .dat K :: I rows.length :: I i :: .dead :: .dead :: .dead :: .dead :: .dead :: .dead :: .dead :: []), bx ++ [c], bx.length, lo, false⟩) = some (.loop (.exit 0) ⟨(.dead :: .dead :: .dead :: .dead :: .dead :: .dead :: .dead :: .dead :: .dead :: .dead :: .dead :: .dead :: .dead :: .dead :: .dead :: .dead :: .dead :: .dead :: .dead :: .dead :: []), upd bx l acc (nodesB.go n bs) ++ [c], bx.length, updL lo l (nodesB.go n bs), false⟩)
  | [], rows, rs, K, acc, i, bx, c, hK, hr, hbs, hmax, hs, b0, b1, hc, lo, hlo => by
    have hl0 : l0 < bx.length := (List.getElem?_eq_some_iff.1 b0).1
    have hl : l < bx.length := (List.getElem?_eq_some_iff.1 b1).1
    rw [IsB.IsBs] at hbs
    subst hbs
    rw [nodesB.go]
    obtain ⟨_, _, _, h3⟩ := hK
    exact ev_step cfg (eachc_end (cap_two hl0 hl) hc (drop_nil hr) lo h3)
  | b :: bs, rows, rs, K, acc, i, bx, c, hK, hr, hbs, hmax, hs, b0, b1, hc, lo, hlo => by
    have hl0 : l0 < bx.length := (List.getElem?_eq_some_iff.1 b0).1
    have hl : l < bx.length := (List.getElem?_eq_some_iff.1 b1).1
    rw [IsB.IsBs] at hbs
    obtain ⟨k, nd, a, K', L', rest, rfl, hB, hrest⟩ := hbs
    obtain ⟨hget, hr', hlt⟩ := drop_cons hr
    rw [sizeB.go] at hs
    have hp := sizeB_pos.go bs
    have hp2 := sizeB_pos b
    have hbl := nodesB_len hsz b
    have h1 := eachc_round (g := 38) (cap := [l0, l]) (u := [mkS 1 (intR (acc ++ nodesB n b))]) (cap_two hl0 hl) hK hl hc hget hlt hmax (isB_one hB).1 (isB_one hB).2 lo hlo (!(nodesB n b).isEmpty) (fun r => by
      have h2 := eachN_ev h hsz hne b (bx := bx ++ [c, r]) (acc := acc) hB (by omega) (by rw [get_old hl0]; exact b0) (by rw [get_old hl]; exact b1)
      rw [set_old hl] at h2
      exact h2)
    have h2 := loop bs (bx := upd bx l acc (nodesB n b)) (acc := acc ++ nodesB n b) (i := i + 1) (c := c) hK hr' hrest hmax (by rw [List.length_append]; push_cast; omega) (upd_ne hne b0 _ _) (upd_get b1 _) (by rw [upd_len]; exact hc) (updL lo l (nodesB n b)) (by unfold updL; split; exact .inr rfl; exact hlo)
    rw [upd_len, upd_upd, updL_updL] at h2
    rw [nodesB.go]
    exact ev_step cfg (h1.trans h2)

theorem intRows_intR : ∀ zs : List Int, intRows (intR zs) = some zs
  | [] => rfl
  | z :: zs => by
    have : intR (z :: zs) = [dI z] :: intR zs := rfl
    rw [this, intRows, intRow, seqO_some, intRows_intR zs]; rfl

theorem nodes_ev {n : Nt} {N F : D} (h : IsN n N F) (hsz : n.flows.length ≤ 1000) (b : Blk) {k nd a : Int} {K L : D} (hB : IsB b k nd a K L) (hz : sizeB b ≤ 1000) (bx : List Box) :
    ev cfg (.call 20 [.agg [.dat N, .dat F], .agg [I k, I nd, I a, .dat K, .dat L]] bx) = some (.ret (mkS 1 (intR (sortI (nodesB n b)))) none) := by
  obtain ⟨oN, oF⟩ := isN_one h
  obtain ⟨oK, oL⟩ := isB_one hB
  have he := eachN_ev h hsz (l := bx.length + 2) (l0 := bx.length) (by omega) b (bx := bx ++ [[.dat N, .dat F], [I k, I nd, I a, .dat K, .dat L], [.dat .nil]]) (acc := []) hB (by simp; omega) (by rw [app_get0]; rfl) (by rw [app_get]; rfl)
  have hlen := nodesB_len hsz b
  cases hnb : nodesB n b with
  | nil =>
    rw [hnb] at he
    rw [show sortI ([] : List Int) = [] by simp [sortI]]
    exact ev_step cfg (nodes_f0 oK oL oF oN he)
  | cons z zs =>
    rw [hnb, if_pos (by simp)] at he
    rw [app_set] at he
    rw [hnb] at hlen
    have hs : ∃ y ys, sortI (z :: zs) = y :: ys := by
      have : (sortI (z :: zs)).length = (z :: zs).length := List.length_mergeSort ..
      cases hq : sortI (z :: zs) with
      | nil => rw [hq] at this; simp at this
      | cons y ys => exact ⟨y, ys, rfl⟩
    have := nodes_f1 (k := k) (n := nd) (a := a) (bx := bx) (acc := intR (z :: zs)) (zs := z :: zs) (intRows_intR _) (by omega) oK oL oF oN he
    obtain ⟨y, ys, hy⟩ := hs
    rw [hy] at this ⊢
    exact ev_step cfg this

end Go.Proofs.YtifckjhggamefaaDoor
