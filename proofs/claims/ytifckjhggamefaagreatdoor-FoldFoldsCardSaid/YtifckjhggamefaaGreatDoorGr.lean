/- What the folder's closing and awaited answer. No condition. -/
import Derived.Test.YtifckjhggamefaaGreatDoorAt
import Derived.Test.YtifckjhggamefaaGreatDoorGd
import Derived.Test.YtifckjhggamefaaGreatDoorGq
import Derived.Test.YtifckjhggamefaaGreatDoorGi
import Derived.Test.YtifckjhggamefaaGreatDoorGa
import Derived.Test.YtifckjhggamefaaGreatDoorGp
set_option linter.unusedSimpArgs false
set_option linter.unusedVariables false
set_option linter.unusedSectionVars false
namespace Go.Proofs.YtifckjhggamefaaGreatDoor
open Go Go.Vx
set_option maxRecDepth 10000
set_option maxHeartbeats 1000000
def wyR (x : Wz) : List D := [dI x.to, dI x.by_, dI x.last]
theorem nR_get {ks : List Nat} {i q : Nat} (h : ks[i]? = some q) : (nR ks)[i]? = some [dI q] := by simp [nR, iR, h]
section
variable {n : Nt} {w : Wb} {bx : List Box} {l : Nat} {N F : D}
theorem wys_get {Q : List Nat} {i q : Nat} (h : Q[i]? = some q) : ((Q.map (followW w)).map wyR)[i]? = some [dI (followW w q).to, dI (followW w q).by_, dI (followW w q).last] := by
 simp [h, wyR]
theorem closing_ev (hN : IsN n N F) (hw : InvW n w) (hB : FB bx l N F w) {s : Nat} (hs : s < w.ks.length) {qz : Nat} {qr : List Nat} (hQ : outsW w.ls s = qz :: qr) {jn : Int} (hjn : jn ≠ 0) (hto : (followW w qz).to < w.ks.length) :
  ev cfg (.call 95 [.ptr l 0, I s, I jn] bx) = some (.ret (.tup
   (if ((outsW w.ls s).all fun q => (followW w qz).to == (followW w q).to) = true then
    [I (followW w qz).to, .own true 3 (((outsW w.ls s).map (followW w)).map wyR), B (decide ((followW w qz).to >= 0) && ((followW w qz).to != (s : Int) && (((gkW n w (followW w qz).to == jn) && (decide (((outsW w.ls (followW w qz).to).length : Int) > 1) == false)) && ((insW w.ls (followW w qz).to).length == (outsW w.ls s).length))))]
   else [I 0, .dat .nil, B false])) none) := by
 have hlens := hw.lens
 have hol : (outsW w.ls s).length <= w.ls.length := idxs_len _ _ _
 have ho := outsW_ev hB.lt hB.get (by omega) (s : Int)
 have hlt : ∀ q ∈ outsW w.ls s, q < w.ls.length := fun q hq => (outsW_lt hq).1
 have hf : ∀ q ∈ outsW w.ls s, ev cfg (.call 98 [.ptr l 0, I (q : Nat)] bx) = Rq (.agg [I (followW w q).to, I (followW w q).by_, I (followW w q).last]) := fun q hq => followW_ev hw hB.lt hB.get (hlt q hq)
 rw [hQ] at ho hlt hf hol ⊢
 have hnl : (nR (qz :: qr)).length = qr.length + 1 := by rw [nR_len]; rfl
 have loop : ∀ (xs : List Nat) (i : Nat) (acc : List Nat), (qz :: qr).drop i = xs -> acc.length + 1 = i -> 
   if (xs.all fun q => (followW w qz).to == (followW w q).to) = true then
    ev cfg (.loop 95 3 (q0 bx (sh95_3 (.ptr l 0) (I s) (I jn) (.own true 3 (wyR (followW w qz) :: (acc.map (followW w)).map wyR)) (.own true 1 (nR (qz :: qr))) (I (nR (qz :: qr)).length) (I i)))) =
     some (.loop (.exit 0) (q0 bx (se95_3 (.ptr l 0) (I s) (I jn) .dead .dead .dead (.own true 3 (wyR (followW w qz) :: ((acc ++ xs).map (followW w)).map wyR)))))
   else ∃ X Y Z U : PV, ev cfg (.loop 95 3 (q0 bx (sh95_3 (.ptr l 0) (I s) (I jn) (.own true 3 (wyR (followW w qz) :: (acc.map (followW w)).map wyR)) (.own true 1 (nR (qz :: qr))) (I (nR (qz :: qr)).length) (I i)))) = some (.loop .ret (q0 bx (se95_3 X Y Z (I 0) (.dat .nil) (B false) U))) := by
  intro xs
  induction xs with
  | nil =>
   intro i acc hd _
   rw [List.all_nil, if_pos rfl, List.append_nil]
   have hge := drop_nil hd
   exact es (fclosing_end (ws := wyR (followW w qz) :: (acc.map (followW w)).map wyR) hB.lt (by rw [hnl]; simpa using hge))
  | cons q xs ih =>
   intro i acc hd ha
   obtain ⟨hget, hd', hlti⟩ := drop_cons hd
   have hfq := hf q (mog hget)
   rw [List.all_cons]
   cases he : ((followW w qz).to == (followW w q).to) with
   | false =>
    rw [Bool.false_and, if_neg fnt]
    have hn : ((followW w qz).to != (followW w q).to) = true := by rw [bne, he]; rfl
    obtain ⟨X, Y, Z, U, h⟩ := fclosing_n (s := s) (jn := jn) (to0 := (followW w qz).to) (by0 := (followW w qz).by_) (la0 := ((followW w qz).last : Nat)) (ws := (acc.map (followW w)).map wyR) hB.lt (nR_get hget) (by rw [hnl]; simpa using hlti) (by rw [hnl]; simp at hol; omega) hfq hn
    exact ⟨X, Y, Z, U, es h⟩
   | true =>
    rw [Bool.true_and]
    have hn : ((followW w qz).to != (followW w q).to) = false := by rw [bne, he]; rfl
    have h := fclosing_y (s := s) (jn := jn) (to0 := (followW w qz).to) (by0 := (followW w qz).by_) (la0 := ((followW w qz).last : Nat)) (ws := (acc.map (followW w)).map wyR) hB.lt (nR_get hget) (by rw [hnl]; simpa using hlti) (by rw [hnl]; simp at hol; omega) hfq hn (by simp at hol hlti ⊢; omega)
    have h2 := ih (i + 1) (acc ++ [q]) hd' (by simp; omega)
    rw [List.map_append, List.map_append, List.append_assoc] at h2
    split
    ·rename_i hall
     rw [if_pos hall] at h2
     exact es (h.trans h2)
    ·rename_i hall
     rw [if_neg hall] at h2
     obtain ⟨X, Y, Z, U, h2⟩ := h2
     exact ⟨X, Y, Z, U, es (h.trans h2)⟩
 have hq0 := hf qz mcs
 have h0 := fclosing_0 (s := s) (jn := jn) (os := nR (qz :: qr)) (i := 0) hB.lt rfl (by rw [hnl]; omega) (by rw [hnl]; simp at hol; omega) hq0
 have h1 := loop qr 1 [] rfl rfl
 rw [List.all_cons, beq_self_eq_true, Bool.true_and]
 have hos : mkS 1 (nR (qz :: qr)) = .own true 1 (nR (qz :: qr)) := rfl
 rw [hos] at ho
 split
 ·rename_i hall
  rw [if_pos hall, List.nil_append] at h1
  have hloop := es (h0.trans h1)
  have hws : ((qz :: qr).map (followW w)).map wyR = wyR (followW w qz) :: (qr.map (followW w)).map wyR := rfl
  rw [hws]
  by_cases c1 : (followW w qz).to >= 0
  ·have d1 : decide ((followW w qz).to >= 0) = true := dqt c1
   by_cases c2 : (followW w qz).to = s
   ·have d2 : ((followW w qz).to != (s : Int)) = false := by simp [c2]
    rw [d1, d2]
    exact es (fclosing_self hB.lt ho hloop d1 d2)
   ·have d2 : ((followW w qz).to != (s : Int)) = true := by simpa using c2
    have his := isW_ev hN hw hB.lt hB.get hto hjn false
    rw [d1, d2]
    cases c3 : ((gkW n w (followW w qz).to == jn) && (decide (((outsW w.ls (followW w qz).to).length : Int) > 1) == false)) with
    | false =>
     rw [c3] at his
     exact es (fclosing_is hB.lt ho hloop d1 d2 his)
    | true =>
     rw [c3] at his
     have hi := insW_ev hB.lt hB.get (by omega) (followW w qz).to
     cases hil : insW w.ls (followW w qz).to with
     | nil =>
      exfalso
      obtain ⟨j, hj⟩ : ∃ j : Nat, (followW w qz).to = j := ⟨(followW w qz).to.toNat, by omega⟩
      have hm : ∃ k, k ∈ insW w.ls (followW w qz).to := by
       rcases follow_cases hw (hlt qz mcs) with ⟨e, _⟩ | ⟨b, o, e1, e2, e3, e4, e5, e6⟩
       ·rw [e]; exact ⟨qz, in_ins (hlt qz mcs)⟩
       ·rw [e6]; exact ⟨o, in_ins e5⟩
      obtain ⟨k, hk⟩ := hm
      rw [hil] at hk; cases hk
     | cons k ks =>
      rw [hil] at hi
      have h2 := fclosing_ins hB.lt ho hloop d1 d2 his hi
      have e : (((nR (k :: ks)).length : Int) == ((((qr.map (followW w)).map wyR).length + 1 : Nat) : Int)) = ((k :: ks).length == (qz :: qr).length) := by
       rw [nR_len, List.length_map, List.length_map, List.length_cons, List.length_cons, Bool.eq_iff_iff, beq_iff_eq, beq_iff_eq]
       omega
      rw [e] at h2
      exact es h2
  ·have d1 : decide ((followW w qz).to >= 0) = false := dqf c1
   rw [d1]
   exact es (fclosing_neg hB.lt ho hloop d1)
 ·rename_i hall
  rw [if_neg hall] at h1
  obtain ⟨X, Y, Z, U, h1⟩ := h1
  exact es (fclosing_no hB.lt ho (es (h0.trans h1)))
theorem by_lt (hw : InvW n w) {q : Nat} (hq : q < w.ls.length) : (followW w q).by_ < w.ks.length := by
 rcases follow_cases hw hq with ⟨e, _⟩ | ⟨b, o, e1, e2, e3, e4, e5, e6⟩
 ·rw [e]; show (-1 : Int) < _; omega
 ·rw [e6]; show (b : Int) < _; omega
theorem to_lt (hw : InvW n w) {q : Nat} (hq : q < w.ls.length) : (followW w q).to < w.ks.length := by
 rcases follow_cases hw hq with ⟨e, _⟩ | ⟨b, o, e1, e2, e3, e4, e5, e6⟩
 ·rw [e]; exact (hw.rng _ (mog (lk_of hq))).2.1.2
 ·rw [e6]; exact (hw.rng _ (mog (lk_of e5))).2.1.2
theorem awaited_ev (hN : IsN n N F) (hw : InvW n w) (hB : FB bx l N F w) {s : Nat} {qz : Nat} {qr : List Nat} (hQ : outsW w.ls s = qz :: qr) :
  ev cfg (.call 96 [.ptr l 0, I s, .dat (.sl 3 (((outsW w.ls s).map (followW w)).map wyR))] bx) = Rq (B ((outsW w.ls s).all (awaitK n w))) := by
 have hlens := hw.lens
 have hol : (outsW w.ls s).length <= w.ls.length := idxs_len _ _ _
 have ho := outsW_ev hB.lt hB.get (by omega) (s : Int)
 have hlt : ∀ q ∈ outsW w.ls s, q < w.ls.length := fun q hq => (outsW_lt hq).1
 have ho : ev cfg (.call 84 [.ptr l 0, I s] bx) = Rq (.own true 1 (nR (outsW w.ls s))) := by rw [ho, hQ]; rfl
 obtain ⟨nr, fr, _, _, _, hF, hfr, _⟩ := hN
 have loop : ∀ (xs : List Nat) (i : Nat), (outsW w.ls s).drop i = xs →
   ev cfg (.loop 96 2 (q0 bx (sh96_2 (.ptr l 0) (.dat (.sl 3 (((outsW w.ls s).map (followW w)).map wyR))) (.own true 1 (nR (outsW w.ls s))) (I (nR (outsW w.ls s)).length) (I i)))) =
    if (xs.all (awaitK n w)) = true then some (.loop (.exit 0) (q0 bx (se96_2 .dead))) else some (.loop .ret (q0 bx (se96_2 (B false)))) := by
  intro xs
  induction xs with
  | nil =>
   intro i hd
   rw [List.all_nil, if_pos rfl]
   exact es (fawait_end hB.lt (by rw [nR_len]; exact drop_nil hd))
  | cons q xs ih =>
   intro i hd
   obtain ⟨hget, hd', hlti⟩ := drop_cons hd
   have hql := hlt q (mog hget)
   have hp := partW_ev (ls := w.ls) hB.lt hB.get (by_lt hw hql)
   have hq := partsW_ev (partW w (followW w q)) bx
   have h1 : i < (nR (outsW w.ls s)).length := by rw [nR_len]; exact hlti
   have h2 : (nR (outsW w.ls s)).length < 9223372036854775808 := by rw [nR_len]; omega
   rw [List.all_cons, awaitK]
   have hpm : partW ⟨w.ks, w.ls⟩ (followW w q) = partW w (followW w q) := rfl
   rw [hpm] at hp
   generalize partW w (followW w q) = p at hp hq
   cases hps : partsB p with
   | nil =>
    rw [hps] at hq
    simp only
    rw [Bool.false_and, if_neg fnt]
    obtain ⟨k, nn, a, ks, ls⟩ := p
    exact es (fawait_nil hB.lt hB.get hF (nR_get hget) h1 h2 (wys_get hget) hp hq)
   | cons c cs =>
    rw [hps] at hq
    simp only
    obtain ⟨k, nn, a, ks, ls⟩ := p
    obtain ⟨pk, pn, pa, pks, pls⟩ := c
    by_cases c1 : pk = 2
    ·have d1 : (pk != 2) = false := by simp [c1]
     have hfl := (hw.rng _ (mog (lk_of hql))).2.2
     obtain ⟨f, hf⟩ : ∃ f : Nat, (lkW w.ls q).2.2 = f := ⟨(lkW w.ls q).2.2.toNat, by omega⟩
     have hfn : f < n.flows.length := by omega
     obtain ⟨row, hrow, hrr⟩ := hfr.get hfn
     obtain ⟨_, _, op, m, KK, rfl, _⟩ := hrr
     have hlk := lnk_getk hql
     rw [hf] at hlk
     have hto : flowTo n w q = n.flows[f].to := by
      rw [flowTo, hf]; simp [hfn]
     rw [hto]
     by_cases c2 : pn = n.flows[f].to
     ·have d2 : (pn != n.flows[f].to) = false := by simp [c2]
      have e : ((Blk.kd (.mk pk pn pa pks pls) == 2) && (Blk.nd (.mk pk pn pa pks pls) == n.flows[f].to)) = true := by
       show ((pk == 2) && (pn == n.flows[f].to)) = true
       simp [c1, c2]
      simp only [e, Bool.true_and]
      have h3 := ih (i + 1) hd'
      have h4 := fawait_y hB.lt hB.get hF (nR_get hget) h1 h2 (wys_get hget) hp hq d1 hlk hrow d2
      split
      ·rename_i ha
       rw [if_pos ha] at h3
       exact es (h4.trans h3)
      ·rename_i ha
       rw [if_neg ha] at h3
       exact es (h4.trans h3)
     ·have d2 : (pn != n.flows[f].to) = true := by simpa using c2
      have e : ((Blk.kd (.mk pk pn pa pks pls) == 2) && (Blk.nd (.mk pk pn pa pks pls) == n.flows[f].to)) = false := by
       show ((pk == 2) && (pn == n.flows[f].to)) = false
       simp [c2]
      simp only [e, Bool.false_and, Bool.false_eq_true, if_false]
      exact es (fawait_n hB.lt hB.get hF (nR_get hget) h1 h2 (wys_get hget) hp hq d1 hlk hrow d2)
    ·have d1 : (pk != 2) = true := by simpa using c1
     have e : ((Blk.kd (.mk pk pn pa pks pls) == 2) && (Blk.nd (.mk pk pn pa pks pls) == flowTo n w q)) = false := by
      show ((pk == 2) && (pn == _)) = false
      simp [c1]
     simp only [e, Bool.false_and, Bool.false_eq_true, if_false]
     exact es (fawait_k hB.lt hB.get hF (nR_get hget) h1 h2 (wys_get hget) hp hq d1)
 have h := loop (outsW w.ls s) 0 rfl
 split at h
 ·rename_i hall
  rw [hall]
  exact es (fawait_callt hB.lt ho h)
 ·rename_i hall
  rw [Bool.not_eq_true] at hall
  rw [hall]
  exact es (fawait_callf hB.lt ho h)
end
def plR (rule : Int) (ks : List Nat) : List (List D) := ks.map fun (k : Nat) => [dI rule, dI ((k : Nat) : Int)]
theorem plR_app (r : Int) (xs ys : List Nat) : plR r (xs ++ ys) = plR r xs ++ plR r ys := by simp [plR]
theorem plR_len (r : Int) (xs : List Nat) : (plR r xs).length = xs.length := by simp [plR]
theorem places_ev {g : FuncId} {cap : List Nat} (rule : Int) {m : Nat} {bx : List Box} (w : Nat -> Bool) (hcap : (cap.all fun l => decide (l < bx.length)) = true) (hm : m <= 1000000)
  (hcall : ∀ i, i < m -> ev cfg (.call g (I i :: cap.map fun l => .ptr l 0) bx) = Rq (B (w i))) :
  ev cfg (.call 107 [I rule, I m, .clo g cap] bx) = Rq (mkS 2 (plR rule ((List.range m).filter w))) := by
 have loop : ∀ (j i : Nat) (acc : List Nat), i + j = m -> acc.length <= i -> ev cfg (.loop 107 3 (q0 bx (sh107_3 (I rule) (.clo g cap) (mkS 2 (plR rule acc)) (I m) (I i)))) =
   some (.loop (.exit 0) (q0 bx (se107_3 (mkS 2 (plR rule (acc ++ (List.range' i j).filter w)))))) := by
  intro j
  induction j with
  | zero =>
   intro i acc hi ha
   rw [List.range'_zero, List.filter_nil, List.append_nil]
   exact es (places_end hcap (by omega))
  | succ j ih =>
   intro i acc hi ha
   have hc1 := hcall i (by omega)
   have e : acc ++ (List.range' i (j + 1)).filter w = (if w i = true then acc ++ [i] else acc) ++ (List.range' (i + 1) j).filter w := by
    rw [List.range'_succ, List.filter_cons]
    split <;> simp
   rw [e]
   have hacc : (if w i = true then acc ++ [i] else acc).length <= i + 1 := by split <;> (try simp) <;> omega
   refine es (Eq.trans ?_ (ih (i + 1) (if w i = true then acc ++ [i] else acc) (by omega) hacc))
   have hks : ((plR rule acc).length + 1) * 16 <= 140737488355328 := by rw [plR_len]; omega
   cases acc with
   | nil =>
    refine (places_round0 hcap (by omega) (by omega) hc1).trans ?_
    cases w i <;> rfl
   | cons a acc =>
    refine (places_round1 (rs := plR rule (a :: acc)) hcap (by omega) (by omega) hks hc1).trans ?_
    cases w i
    ·rfl
    ·simp only [if_true, plR_app]; rfl
 refine es (places_f hcap ?_)
 have := loop m 0 [] (by omega) (Nat.le_refl _)
 rw [List.nil_append, <- List.range_eq_range'] at this
 exact this
theorem outs_lt {n : Nt} {i : Int} {o : Nat} (h : o ∈ outsN n i) : o < n.flows.length := by
 obtain ⟨_, x, h1, _⟩ := (mem_idxs _ _ _ _).1 h
 exact (gsi.1 h1).1
theorem kind_at {n : Nt} {p : Nat} (h : p < n.nodes.length) : kindN n p = n.nodes[p].k := by
 rw [kindN, if_neg (by omega)]
 simp [h]
theorem to_at {n : Nt} {p : Nat} (h : p < n.flows.length) : toN n p = n.flows[p].to := by simp [toN, h]
theorem els_at {n : Nt} {p : Nat} (h : p < n.flows.length) : elsN n p = n.flows[p].els := by simp [elsN, h]
def Ends (n : Nt) : Prop := ∀ f ∈ n.flows, (0 <= f.fr /\ f.fr < n.nodes.length) /\ 0 <= f.to /\ f.to < n.nodes.length
theorem beq_nat (m k : Nat) : ((m : Int) == (k : Int)) = (m == k) := by rw [Bool.eq_iff_iff, beq_iff_eq, beq_iff_eq]; omega
theorem linked_ev {n : Nt} {N F : D} (h : IsN n N F) (hsz : n.flows.length <= 1000000) (hE : Ends n) {p : Nat} (hp : p < n.nodes.length) (bx : List Box) :
  ev cfg (.call 137 [Nq N F, I p] bx) = Rq (B (linkedN n p)) := by
 have hO := fun bx : List Box => outs_ev h hsz p bx
 have hI := fun bx : List Box => ins_ev h hsz p bx
 have hol : (outsN n p).length <= 1000000 := Nat.le_trans (idxs_len _ _ _) hsz
 obtain ⟨o1, o2⟩ := isN_one h
 obtain ⟨nr, fr, hN, hnr, _, hF, hfr, _⟩ := h
 obtain ⟨row, hrow, _, _, op2, m2, K2, rfl, hT2⟩ := hnr.get hp
 have hX := mkD_is 1 (natR (outsN n p))
 have hXl : (natR (outsN n p)).length = (outsN n p).length := natR_len _
 have loop : ∀ (ins kd : Int) (os : List Nat) (i el : Nat) (cat : Bool), (outsN n p).drop i = os -> el <= i →
   ev cfg (.loop 137 6 (qs bx (sh137_6 (P0 bx) (.dat (mkD 1 (natR (outsN n p)))) (I ins) (I kd) (I el) (B cat) (.dat (mkD 1 (natR (outsN n p)))) (I (natR (outsN n p)).length) (I i)) [Nb N F])) =
   some (.loop (.exit 0) (qs bx (se137_6 (.dat (mkD 1 (natR (outsN n p)))) (I ins) (I kd) (I ((el + (os.filter (elsN n)).length : Nat) : Int)) (B (cat && os.all fun f => kindN n (toN n f) == 8))) [Nb N F])) := by
  intro ins kd os
  induction os with
  | nil =>
   intro i el cat hd _
   rw [List.filter_nil, List.length_nil, Nat.add_zero, List.all_nil, Bool.and_true]
   exact es (link_end o1 o2 (mkD_one _ _) (by rw [hXl]; exact drop_nil hd))
  | cons o os ih =>
   intro i el cat hd hel
   obtain ⟨hget, hd', hlt⟩ := drop_cons hd
   have hol2 : o < n.flows.length := outs_lt (mog hget)
   obtain ⟨row, hfrow, _, _, op, m, K, rfl, hT⟩ := hfr.get hol2
   have hends := hE n.flows[o] (List.getElem_mem hol2)
   obtain ⟨q, hq⟩ : ∃ q : Nat, n.flows[o].to = q := ⟨n.flows[o].to.toNat, by omega⟩
   have hql : q < n.nodes.length := by omega
   obtain ⟨row, hnrow, _, _, op3, m3, K3, rfl, hT3⟩ := hnr.get hql
   rw [hq] at hfrow
   have hXget : (natR (outsN n p))[i]? = some [dI (o : Int)] := by simp [natR, hget]
   have hr := link_round (bx := bx) (el := (el : Int)) (ins := ins) (kd := kd) (cat := cat) hN hF hX hXget hfrow hnrow (by rw [hXl]; exact hlt) (by rw [hXl]; omega) (wrap_lo (by omega) (by omega))
   have hk8 : (kindN n (toN n o) == 8) = (n.nodes[q].k == 8) := by rw [to_at hol2, hq, kind_at hql]
   have hel' : (if n.flows[o].els = true then (el : Int) + 1 else el) = ((if elsN n o = true then el + 1 else el : Nat) : Int) := by
    rw [els_at hol2]; split <;> simp
   rw [hel', <- hk8] at hr
   have e1 : el + ((o :: os).filter (elsN n)).length = (if elsN n o = true then el + 1 else el) + (os.filter (elsN n)).length := by
    rw [List.filter_cons]; split <;> simp <;> omega
   rw [e1, List.all_cons, <- Bool.and_assoc]
   exact es (hr.trans (ih (i + 1) (if elsN n o = true then el + 1 else el) (cat && kindN n (toN n o) == 8) hd' (by split <;> omega)))
 have hl := fun kd : Int => loop (natR (insN n p)).length kd (outsN n p) 0 0 true rfl (Nat.le_refl _)
 have hk : kindN n p = n.nodes[p].k := kind_at hp
 have hY := mkD_is 1 (natR (insN n p))
 have hYl : (natR (insN n p)).length = (insN n p).length := natR_len _
 have g0 : ∀ m : Nat, ((m : Int) == 0) = (m == 0) := fun m => beq_nat m 0
 have g1 : ∀ m : Nat, ((m : Int) == 1) = (m == 1) := fun m => beq_nat m 1
 have gg : ∀ m : Nat, decide ((m : Int) > 1) = decide (1 < m) := fun m => decide_eq_decide.2 (by omega)
 rw [linkedN]
 simp only [hk]
 generalize n.nodes[p].k = k at hrow
 have hl0 := hl k
 simp only [Nat.zero_add, Bool.true_and] at hl0
 by_cases k1 : k = 1
 ·subst k1
  rw [if_pos rfl, es (link_1 hN o2 hX hY hrow hO hI hl0), hXl, hYl, g0, g1]
 rw [if_neg k1]
 by_cases k2 : k = 2
 ·subst k2
  rw [if_pos rfl, es (link_2 hN o2 hX hY hrow hO hI hl0), hXl, hYl, g0, g1]
 rw [if_neg k2]
 by_cases k7 : k = 7
 ·subst k7
  rw [if_pos rfl, es (link_7 hN o2 hX hY hrow hO hI hl0), hXl, hYl, gg, g1]
 rw [if_neg k7]
 by_cases k5 : k = 5
 ·subst k5
  rw [if_pos rfl, es (link_5 hN o2 hX hY hrow hO hI hl0), hXl, hYl, gg, gg, g1, g1, g1, <- Bool.and_assoc]
 rw [if_neg k5]
 by_cases k6 : k = 6
 ·subst k6
  rw [if_pos rfl, es (link_6 hN o2 hX hY hrow hO hI hl0), hXl, hYl, gg, gg, g1, g1]
 rw [if_neg k6, es (link_o (by simpa using k1) (by simpa using k2) (by simpa using k7) (by simpa using k5) (by simpa using k6) hN o2 hX hY hrow hO hI hl0), hXl, hYl, g1, g1]
def thirdW (n : Nt) (i : Nat) : Bool := !linkedN n i || ((kindN n i == 1 && (i : Int) != startN n) || (kindN n i == 2 && (i : Int) != endN n))
theorem third_ev {n : Nt} {N F : D} (h : IsN n N F) (hsz : n.flows.length <= 1000000) (hsz2 : n.nodes.length <= 1000000) (hE : Ends n) (bx : List Box) :
  ev cfg (.call 112 [Nq N F] bx) = Rq (mkS 2 (plR 3 ((List.range n.nodes.length).filter (thirdW n)) ++ if (decide (startN n < 0) || decide (endN n < 0)) = true then [[dI 3, dI n.nodes.length]] else [])) := by
 have hs := fun bx : List Box => start_ev h bx
 have hz := fun bx : List Box => end_ev h bx
 have hl := fun (p : Nat) (hp : p < n.nodes.length) (bx : List Box) => linked_ev h hsz hE hp bx
 obtain ⟨o1, o2⟩ := isN_one h
 obtain ⟨nr, fr, hN, hnr, _, hF, hfr, _⟩ := h
 have hlen : nr.length = n.nodes.length := hnr.1
 have hpl := places_ev (g := 136) (cap := [bx.length, bx.length + 1, bx.length + 2]) 3 (m := n.nodes.length) (bx := bx ++ [Nb N F, [I (startN n)], [I (endN n)]]) (thirdW n) (by simp) hsz2 fun p hp => by
  obtain ⟨row, hrow, _, _, op2, m2, K2, rfl, hT2⟩ := hnr.get hp
  have := third1_f (bx := bx ++ [Nb N F, [I (startN n)], [I (endN n)]]) (l1 := bx.length) (l2 := bx.length + 1) (l3 := bx.length + 2) (s := startN n) (z := endN n) hN o2 hrow (by simp) (by simp) (by simp) (by simp) (by simp) (by simp) (hl p hp _)
  refine es (this.trans ?_)
  rw [thirdW, kind_at hp]
 rw [<- hlen] at hpl ⊢
 cases hf : (List.range nr.length).filter (thirdW n) with
 | nil =>
  rw [hf] at hpl
  rw [es (third_f0 hN o2 hs hz hpl)]
  congr 2
  split <;> rfl
 | cons a l =>
  rw [hf] at hpl
  have hks : ((plR 3 (a :: l)).length + 1) * 16 <= 140737488355328 := by
   rw [plR_len, <- hf]
   have := List.length_filter_le (thirdW n) (List.range nr.length)
   rw [List.length_range] at this
   omega
  rw [es (third_f1 hks hN o2 hs hz hpl)]
  congr 2
  split
  ·rfl
  ·rw [List.append_nil]; rfl
def lkEq (x y : Int × Int × Int) : Bool := x.1 == y.1 && (x.2.1 == y.2.1 && x.2.2 == y.2.2)
def lksEq : List (Int × Int × Int) -> List (Int × Int × Int) -> Bool
 | [], [] => true
 | x :: xs, y :: ys => lkEq x y && lksEq xs ys
 | _, _ => false
def sameB : Blk -> Blk -> Bool
 | .mk k n a ks ls, b => match b with
  | .mk k2 n2 a2 ks2 ls2 => k == k2 && n == n2 && a == a2 && lksEq ls ls2 && go ks ks2
where
 go : List Blk -> List Blk -> Bool
 | [], bs => bs.isEmpty
 | b :: bs, cs => match cs with
  | [] => false
  | c :: cs => sameB b c && go bs cs
theorem lksEq_len : ∀ {xs ys : List (Int × Int × Int)}, xs.length ≠ ys.length -> lksEq xs ys = false
 | [], [], h => absurd rfl h
 | [], _ :: _, _ => rfl
 | _ :: _, [], _ => rfl
 | x :: xs, y :: ys, h => by rw [lksEq, lksEq_len (by simpa using h), Bool.and_false]
theorem go_len : ∀ {xs ys : List Blk}, xs.length ≠ ys.length -> sameB.go xs ys = false
 | [], [], h => absurd rfl h
 | [], _ :: _, _ => by rw [sameB.go]; rfl
 | _ :: _, [], _ => by rw [sameB.go]
 | x :: xs, y :: ys, h => by rw [sameB.go]; (try simp only); rw [go_len (by simpa using h), Bool.and_false]
theorem lksEq_refl : ∀ xs, lksEq xs xs = true
 | [] => rfl
 | x :: xs => by rw [lksEq, lksEq_refl xs, lkEq]; simp
theorem sameB_refl : ∀ b, sameB b b = true
 | .mk k n a ks ls => by rw [sameB]; (try simp only); rw [lksEq_refl, go ks]; simp
where
 go : ∀ bs, sameB.go bs bs = true
 | [] => by rw [sameB.go]; rfl
 | b :: bs => by rw [sameB.go]; (try simp only); rw [sameB_refl b, go bs]; rfl
theorem rlks_loop : ∀ (xs ys : List (Int × Int × Int)) {lr lr2 : List (List D)} {K L K2 L2 : D} {k n a k2 n2 a2 : Int} {i : Nat} {bx : List Box}, IsS 3 lr L -> IsS 3 lr2 L2 -> Oq K -> Oq K2 -> lr.drop i = xs.map lnkD -> lr2.drop i = ys.map lnkD -> xs.length = ys.length -> lr.length < 9223372036854775808 →
  ev cfg (.loop 12 4 (qs bx (sh12_4 (P0 bx) (P1 bx) (I lr.length) (I i)) [Wx k n a K L, Wx k2 n2 a2 K2 L2])) =
   some (if lksEq xs ys = true then .loop (.exit 0) (qs bx (se12_4 (P0 bx) (P1 bx) .dead) [Wx k n a K L, Wx k2 n2 a2 K2 L2]) else .loop .ret (qs bx (se12_4 (P0 bx) (P1 bx) (B false)) [Wx k n a K L, Wx k2 n2 a2 K2 L2]))
 | [], [], lr, lr2, K, L, K2, L2, k, n, a, k2, n2, a2, i, bx, hL, hL2, hK, hK2, hr, hr2, hlen, hmax => by
  rw [lksEq, if_pos rfl]
  exact es (e18 (drop_nil hr))
 | x :: xs, y :: ys, lr, lr2, K, L, K2, L2, k, n, a, k2, n2, a2, i, bx, hL, hL2, hK, hK2, hr, hr2, hlen, hmax => by
  rw [List.map_cons] at hr hr2
  obtain ⟨hget, hr', hlt⟩ := drop_cons hr
  obtain ⟨hget2, hr2', _⟩ := drop_cons hr2
  have h1 := r18 (bx := bx) (x := lkEq x y) (k := k) (n := n) (a := a) (k2 := k2) (n2 := n2) (a2 := a2) hL hL2 hK hK2 hget hget2 hlt hmax rfl
  have ih := rlks_loop xs ys (i := i + 1) (bx := bx) (k := k) (n := n) (a := a) (k2 := k2) (n2 := n2) (a2 := a2) hL hL2 hK hK2 hr' hr2' (by simpa using hlen) hmax
  rw [lksEq]
  cases hx : lkEq x y
  ·rw [hx, if_neg (by simp)] at h1
   rw [Bool.false_and, if_neg (by simp)]
   exact es h1
  ·rw [hx, if_pos rfl] at h1
   rw [Bool.true_and]
   exact es (h1.trans ih)
 | [], _ :: _, _, _, _, _, _, _, _, _, _, _, _, _, _, _, _, _, _, _, _, _, hlen, _ => by cases hlen
 | _ :: _, [], _, _, _, _, _, _, _, _, _, _, _, _, _, _, _, _, _, _, _, _, hlen, _ => by cases hlen
theorem rsame_ev : ∀ (b c : Blk) {k n a k2 n2 a2 : Int} {K L K2 L2 : D}, IsB b k n a K L -> IsB c k2 n2 a2 K2 L2 -> Cq 12 [Wq k n a K L, Wq k2 n2 a2 K2 L2] (B (sameB b c))
 | .mk _ _ _ ks ls, c, k, n, a, k2, n2, a2, K, L, K2, L2, h, h2, bx => by
  cases c with
  | mk _ _ _ ks2 ls2 =>
  rw [IsB] at h h2
  obtain ⟨rfl, rfl, rfl, _, _, _, rows, hK, hks, hmax, hL, hlm, _⟩ := h
  obtain ⟨rfl, rfl, rfl, _, _, _, rows2, hK2, hks2, hmax2, hL2, hlm2, _⟩ := h2
  rw [sameB]
  try simp only
  have l1 := isBs_len hks
  have l2 := isBs_len hks2
  by_cases hno : ((k != k2) || (n != n2) || (a != a2) || ((rows.length : Int) != (rows2.length : Int)) || (((ls.map lnkD).length : Int) != ((ls2.map lnkD).length : Int))) = true
  ·have e : (k == k2 && n == n2 && a == a2 && lksEq ls ls2 && sameB.go ks ks2) = false := by
    simp only [Bool.or_eq_true, bne_iff_ne, ne_eq] at hno
    rcases hno with (((h | h) | h) | h) | h
    ·simp [h]
    ·simp [h]
    ·simp [h]
    ·rw [go_len (by rw [<- l1, <- l2]; intro e; exact h (by rw [e])), Bool.and_false]
    ·rw [lksEq_len (by intro e; exact h (by simp [e]))]; simp
   rw [e]
   exact es (f18_no hK hL hK2 hL2 hno)
  ·have hno' := Bool.eq_false_iff.2 hno
   simp only [Bool.or_eq_false_iff] at hno'
   obtain ⟨⟨⟨⟨c1, c2⟩, c3⟩, c4⟩, c5⟩ := hno'
   have e1 : (k == k2) = true := by simpa using c1
   have e2 : (n == n2) = true := by simpa using c2
   have e3 : (a == a2) = true := by simpa using c3
   have e4 : ks.length = ks2.length := by rw [<- l1, <- l2]; have := c4; simp at this; omega
   have e5 : ls.length = ls2.length := by have := c5; simp at this; omega
   rw [e1, e2, e3, Bool.true_and, Bool.true_and, Bool.true_and]
   exact es (f18 hK hL hK2 hL2 c1 c2 c3 c4 c5 (rlks_loop ls ls2 (i := 0) hL hL2 (by obtain ⟨_, _, _, q⟩ := hK; exact q) (by obtain ⟨_, _, _, q⟩ := hK2; exact q) rfl rfl e5 (by simpa using hlm))
    fun _ => loop ks ks2 (i := 0) hK hK2 (by obtain ⟨_, _, _, q⟩ := hL; exact q) (by obtain ⟨_, _, _, q⟩ := hL2; exact q) rfl rfl hks hks2 e4 (by rw [l1]; exact hmax))
where
 loop : ∀ (bs cs : List Blk) {rows rows2 rs rs2 : List (List D)} {K L K2 L2 : D} {k n a k2 n2 a2 : Int} {i : Nat} {bx : List Box}, IsS 5 rows K -> IsS 5 rows2 K2 -> Oq L -> Oq L2 -> rows.drop i = rs -> rows2.drop i = rs2 -> IsB.IsBs bs rs -> IsB.IsBs cs rs2 -> bs.length = cs.length -> rows.length < 9223372036854775808 →
  ev cfg (.loop 12 10 (qs bx (sh12_10 (P0 bx) (P1 bx) (I rows.length) (I i)) [Wx k n a K L, Wx k2 n2 a2 K2 L2])) =
   some (if sameB.go bs cs = true then .loop (.exit 2) (qs bx (se12_10 .dead) [Wx k n a K L, Wx k2 n2 a2 K2 L2]) else .loop .ret (qs bx (se12_10 (B false)) [Wx k n a K L, Wx k2 n2 a2 K2 L2]))
 | [], cs, rows, rows2, rs, rs2, K, L, K2, L2, k, n, a, k2, n2, a2, i, bx, hK, hK2, hL, hL2, hr, hr2, hbs, hcs, hlen, hmax => by
  cases cs with
  | cons => cases hlen
  | nil =>
   rw [IsB.IsBs] at hbs
   subst hbs
   rw [sameB.go, List.isEmpty_nil, if_pos rfl]
   exact es (e18b (drop_nil hr))
 | b :: bs, cs, rows, rows2, rs, rs2, K, L, K2, L2, k, n, a, k2, n2, a2, i, bx, hK, hK2, hL, hL2, hr, hr2, hbs, hcs, hlen, hmax => by
  cases cs with
  | nil => cases hlen
  | cons c cs =>
   rw [IsB.IsBs] at hbs hcs
   obtain ⟨kk, nn, aa, K', L', rest, rfl, hB, hrest⟩ := hbs
   obtain ⟨kk2, nn2, aa2, K2', L2', rest2, rfl, hB2, hrest2⟩ := hcs
   obtain ⟨hget, hr', hlt⟩ := drop_cons hr
   obtain ⟨hget2, hr2', _⟩ := drop_cons hr2
   have h1 := r18b (bx := bx) (x := sameB b c) (k := k) (n := n) (a := a) (k2 := k2) (n2 := n2) (a2 := a2) hK hK2 hL hL2 hget hget2 hlt hmax (isB_one hB).1 (isB_one hB).2 (isB_one hB2).1 (isB_one hB2).2 (rsame_ev b c hB hB2)
   have ih := loop bs cs (i := i + 1) (bx := bx) (k := k) (n := n) (a := a) (k2 := k2) (n2 := n2) (a2 := a2) hK hK2 hL hL2 hr' hr2' hrest hrest2 (by simpa using hlen) hmax
   rw [sameB.go]
   try simp only
   cases hx : sameB b c
   ·rw [hx, if_neg (by simp)] at h1
    rw [Bool.false_and, if_neg (by simp)]
    exact es h1
   ·rw [hx, if_pos rfl] at h1
    rw [Bool.true_and]
    exact es (h1.trans ih)
set_option maxHeartbeats 4000000
section
end
end Go.Proofs.YtifckjhggamefaaGreatDoor
