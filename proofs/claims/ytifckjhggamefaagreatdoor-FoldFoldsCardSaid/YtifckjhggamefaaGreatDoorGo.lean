/- What the blocks' functions answer: size, wrong, bad, digits. No condition. -/
import Derived.Test.YtifckjhggamefaaGreatDoorAt
import Derived.Test.YtifckjhggamefaaGreatDoorGl
import Derived.Test.YtifckjhggamefaaGreatDoorGm
import Derived.Test.YtifckjhggamefaaGreatDoorVxOk
import Derived.Test.YtifckjhggamefaaGreatDoorCards
import Derived.Test.YtifckjhggamefaaGreatDoorTie
import Derived.ProofKit
import Derived.LaidMore
import Derived.OpenShut
import Derived.Stop.Joined
import Derived.SevenTiedAt
import Derived.Test.YtifckjhggamefaaGreatDoorGe
import Derived.Test.YtifckjhggamefaaGreatDoorGn
import Derived.Test.YtifckjhggamefaaGreatDoorGa
set_option linter.unusedSimpArgs false
set_option linter.unusedVariables false
set_option linter.unusedSectionVars false
namespace Go.Proofs.YtifckjhggamefaaGreatDoor
open Go Go.Vx
set_option maxRecDepth 10000
set_option maxHeartbeats 8000000
section
variable {bx : List Box} {z : Box} {nr fr : List (List D)} {N F K : D} {i p q l m : Nat} {op n : Int} {e v : Bool} {o : List Bool}
def rboolR (o : List Bool) : List (List D) := o.map fun b => [D.lit (.bool b)]
theorem rbool_get {o : List Bool} {i : Nat} {b : Bool} (h : o[i]? = some b) : (rboolR o)[i]? = some [.lit (.bool b)] := by simp [rboolR, h]
theorem rbool_len (o : List Bool) : (rboolR o).length = o.length := by simp [rboolR]
theorem rbool_set (o : List Bool) (i : Nat) (b : Bool) : (rboolR o).set i [.lit (.bool b)] = rboolR (o.set i b) := by simp [rboolR, List.map_set]
theorem rreach_in (hF : IsS 6 fr F) (hN : Oq N) (hget : fr[i]? = some [dI p, dI q, .lit (.bool e), dI op, dI n, K]) (hlt : i < fr.length) (hmax : fr.length < 9223372036854775808) (hk : Oq K) (hp : o[p]? = some v) (hq : q < o.length) :
  Jq (.loop 41 6 (qs bx (sh41_6 (P0 bx) (.own true 1 (rboolR o)) (I m) (I l) (.dat F) (I fr.length) (I i)) [Nb N F])) =
   ev cfg (.loop 41 6 (qs bx (sh41_6 (P0 bx) (.own true 1 (rboolR (if v = true then o.set q true else o))) (I m) (I l) (.dat F) (I fr.length) (I ((i + 1 : Nat) : Int))) [Nb N F])) := by
 obtain ⟨w, h1, h2, h3⟩ := hF
 obtain rfl := isS_w h2 hget
 have hp' := rbool_get hp
 have l1 : p < (rboolR o).length := (gsi.1 hp').1
 have l2 : q < (rboolR o).length := by rw [rbool_len]; exact hq
 obtain ⟨b, hb⟩ : ∃ b, (rboolR o)[q]? = some [.lit (.bool b)] := by
  have : o[q]? = some o[q] := gge hq
  exact ⟨_, rbool_get this⟩
 cases v <;> simp (maxSteps:=9000000) only [go_sem, seval, h1, h3, hN, hk, nat_lt hlt, nat_neg, tnc, hget, hp', hb, l1, l2, rbool_set, nat_succ hlt hmax]
theorem rreach_inend {k : Nat} (hF : Oq F) (hN : Oq N) (hge : k <= i) :
  Jq (.loop 41 6 (qs bx (sh41_6 (P0 bx) (.own true 1 (rboolR o)) (I m) (I l) (.dat F) (I k) (I i)) [Nb N F])) =
   some (.loop (.exit 2) (qs bx (se41_6 (P0 bx) (.own true 1 (rboolR o)) (I m) (I l)) [Nb N F])) := by
 simp (maxSteps:=9000000) only [go_sem, seval, hF, hN, nat_ge hge]
theorem rreach_out {o2 : List Bool} (hF : IsS 6 fr F) (hN : Oq N) (hlt : l < m) (hmax : m < 9223372036854775808)
  (hin : ev cfg (.loop 41 6 (qs bx (sh41_6 (P0 bx) (.own true 1 (rboolR o)) (I m) (I l) (.dat F) (I fr.length) (I 0)) [Nb N F])) =
   some (.loop (.exit 2) (qs bx (se41_6 (P0 bx) (.own true 1 (rboolR o2)) (I m) (I l)) [Nb N F]))) :
  Jq (.loop 41 4 (qs bx (sh41_4 (P0 bx) (.own true 1 (rboolR o)) (I m) (I l)) [Nb N F])) =
   ev cfg (.loop 41 4 (qs bx (sh41_4 (P0 bx) (.own true 1 (rboolR o2)) (I m) (I ((l + 1 : Nat) : Int))) [Nb N F])) := by
 obtain ⟨w, h1, h2, h3⟩ := hF
 simp (maxSteps:=9000000) only [go_sem, seval, h1, h3, hN, nat_lt hlt, hin, nat_succ hlt hmax]
theorem rreach_outend (hF : Oq F) (hN : Oq N) (hge : m <= l) :
  Jq (.loop 41 4 (qs bx (sh41_4 (P0 bx) (.own true 1 (rboolR o)) (I m) (I l)) [Nb N F])) =
   some (.loop (.exit 0) (qs bx (se41_4 (.own true 1 (rboolR o))) [Nb N F])) := by
 simp (maxSteps:=9000000) only [go_sem, seval, hF, hN, nat_ge hge]
theorem rreach_f {o2 : List Bool} (hF : Oq F) (hN : IsS 5 nr N) (hp : p < nr.length) (hs : nr.length * 1 <= 140737488355328) (hb : (List.replicate nr.length [D.lit (.bool false)])[p]? = some [.lit (.bool false)]) (he : (List.replicate nr.length [D.lit (.bool false)]).set p [.lit (.bool true)] = rboolR o)
  (hloop : ev cfg (.loop 41 4 (qs bx (sh41_4 (P0 bx) (.own true 1 (rboolR o)) (I nr.length) (I 0)) [Nb N F])) =
   some (.loop (.exit 0) (qs bx (se41_4 (.own true 1 (rboolR o2))) [Nb N F]))) :
  Jq (.call 41 [Nq N F, I p] bx) = Rq (.own true 1 (rboolR o2)) := by
 obtain ⟨w, h1, h2, h3⟩ := hN
 have z : (0 : Int) <= (nr.length : Int) := by omega
 have lr : p < (List.replicate nr.length [D.lit (.bool false)]).length := by simpa using hp
 have hs' : nr.length <= 140737488355328 := by omega
 simp (maxSteps:=9000000) only [go_sem, seval, h1, h3, hF, hs, hs', z, hb, lr, hp, List.length_replicate, Nat.mul_one, nat_neg, tnc, he, hloop]
end
open Go.ChangeShapes Go.WideShapes Go.ChangeAt Go.WideElems Go.RowKit
set_option maxRecDepth 100000
theorem own : ownKnob Tryz.prog.godebug = none := by kernel_rfl
theorem laidOut : laidOutB Tryz.prog = true := by kernel_rfl
theorem door_met (os : Os) (args : Array Value) : laidMetH Tryz.prog laidNames ((World.doorLaid Tryz.prog 400 os).forCall (fun _ _ => 0) ⟨#[], args, []⟩).memory :=
 laidMetH_of_parts3 (fuel := 8) (laidMet_of_run' 8 (by kernel_rfl) (by kernel_rfl)) (by kernel_rfl) (by kernel_rfl)
section
variable {H : Type} {enc : TypeId × Value -> H} {P : Program}
theorem post_below {f : Func} {s : ChangeSpec} {apart fresh handsOn again : Bool} {W W' : World} {args : Array Value} {v : Value} {ds gs : List (DataW H)} {before pa pv : List MemPlace}
  (hW : DataW.Whole enc P f.params.toList s.vars apart W args.toList ds gs before)
  (hres : ∀ (b : Nat) (sp : Nat -> Bool) (hd : Bool), DataW.TrodAll enc P W' b sp hd f.resultTypes.toList (v.resultList f.resultTypes.size) (s.fn H (ds ++ gs)).results [])
  (hargs : ∀ sp : Nat -> Bool, (∀ p ∈ before, sp p.block = true) -> DataW.TrodAll enc P W' 0 sp true f.params.toList args.toList (s.fn H (ds ++ gs)).args pa)
  (hvars : ∀ sp : Nat -> Bool, (∀ p ∈ before, sp p.block = true) -> DataW.TrodVars enc P W' sp s.vars (s.fn H (ds ++ gs)).vars pv)
  (hps : before = pa ++ pv) (hb : Below W.heap.size W W')
  (hok : ∀ (j : Nat) (t : TypeId) (r : Value), f.resultTypes[j]? = some t -> (v.resultList f.resultTypes.size)[j]? = some r -> Value.okWide P W' .any 0 t r) :
  s.post enc P f apart fresh handsOn again W args v W' := by
 have hlt : ∀ p ∈ before, p.block < W.heap.size := fun p hp => hW.lt p hp
 have hold : ∀ p ∈ before, (fun b => decide (b < W.heap.size)) p.block = true := fun p hp => by simpa using hlt p hp
 refine ⟨ds, gs, before, [], pa, pv, hW, hres _ _ _, hargs _ hold, hvars _ hold, World.keptBut_mono (fun p hp => ⟨hp, ?_⟩) (hb.frame (· ∈ before)), fun _ => ?_⟩
 ·rw [hps, List.mem_append] at hp
  exact Or.inr hp
 ·obtain ⟨_, _, _, _, _, hz, hn⟩ := hW
  refine ⟨hok, _, _, ([] ++ pa) ++ pv, ⟨[] ++ pa, pv, trodAll_append (hargs _ (fun _ _ => rfl)) (hres _ _ _), hvars _ (fun _ _ => rfl), rfl, ?_, ?_⟩, ?_⟩
  ·intro b off hp
   have hin : MemPlace.cell b off ∈ before := by rw [hps]; simpa using hp
   rw [hb.frozen (hlt _ hin)]
   exact hz b off hin
  ·intro ha
   have := hn ha
   rw [hps] at this
   simpa using this
  ·intro p hp _
   rw [hps]
   simpa using hp
end
def cB : Blk -> List D
 | .mk k n a ks ls => [dI k, dI n, dI a, mkD 5 (cBs ks), mkD 3 (ls.map lnkD)]
where
 cBs : List Blk -> List (List D)
 | [] => []
 | b :: bs => cB b :: cBs bs
def pB : Blk -> PV
 | .mk k n a ks ls => Wq k n a (mkD 5 (cB.cBs ks)) (mkD 3 (ls.map lnkD))
theorem cBs_map : ∀ bs : List Blk, cB.cBs bs = bs.map cB
 | [] => rfl
 | b :: bs => by rw [cB.cBs, cBs_map bs]; rfl
theorem cBs_len (bs : List Blk) : (cB.cBs bs).length = bs.length := by rw [cBs_map, List.length_map]
theorem cBs_get {bs : List Blk} {i : Nat} {b : Blk} (h : bs[i]? = some b) : (cB.cBs bs)[i]? = some (cB b) := by rw [cBs_map, List.getElem?_map, h]; rfl
theorem cBs_app (xs ys : List Blk) : cB.cBs (xs ++ ys) = cB.cBs xs ++ cB.cBs ys := by simp [cBs_map]
theorem cBs_set (bs : List Blk) (i : Nat) (b : Blk) : (cB.cBs bs).set i (cB b) = cB.cBs (bs.set i b) := by simp [cBs_map, List.map_set]
theorem mkD_one (k : Nat) (xs : List (List D)) : (mkD k xs).oneC = true := by cases xs <;> rfl
theorem mkD_isS (k : Nat) (xs : List (List D)) : IsS k xs (mkD k xs) := by
 cases xs with
 | nil => exact ⟨0, rfl, by simp, rfl⟩
 | cons x xs => exact ⟨k, rfl, by simp, rfl⟩
theorem mkS_ne {k : Nat} {xs : List (List D)} (h : xs ≠ []) : mkS k xs = .own true k xs := by cases xs with | nil => exact absurd rfl h | cons => rfl
theorem mkS_app (k : Nat) (xs : List (List D)) (r : List D) : mkS k (xs ++ [r]) = .own true k (xs ++ [r]) := mkS_ne (by simp)
theorem nR_app1 (xs : List Nat) (i : Nat) : nR (xs ++ [i]) = nR xs ++ [[dI i]] := by rw [nR_app]; rfl
def fbox (N F : D) (w : Wb) : Box := [.dat N, .dat F, mkS 5 (cB.cBs w.ks), mkS 3 (w.ls.map lnkD)]
theorem lnk_get {ls : List Lk} {i : Nat} {x : Lk} (h : ls[i]? = some x) : (ls.map lnkD)[i]? = some [dI x.1, dI x.2.1, dI x.2.2] := by rw [List.getElem?_map, h]; rfl
theorem lnk_getk {ls : List Lk} {i : Nat} (h : i < ls.length) : (ls.map lnkD)[i]? = some [dI (lkW ls i).1, dI (lkW ls i).2.1, dI (lkW ls i).2.2] := lnk_get (lk_of h)
section
variable {bx : List Box} {N F : D} {l : Nat} {Y : PV}
theorem fplaces_ev {ls : List Lk} {c g : Nat} (p : Lk -> Bool) (hl : l < bx.length) (hb : bx[l]? = some [.dat N, .dat F, Y, .own true 3 (ls.map lnkD)]) (hcl : c < bx.length) (hlen : ls.length <= 1000)
  (hcall : ∀ x ∈ ls, ∀ r : Box, ev cfg (.call g [Aq x.1 x.2.1 x.2.2, .ptr c 0] (bx ++ [r])) = Rq (B (p x))) :
  ev cfg (.call 128 [.ptr l 0, .clo g [c]] bx) = Rq (mkS 1 (nR (idxs p 0 ls))) := by
 have hll : (ls.map lnkD).length = ls.length := List.length_map ..
 have loop : ∀ (xs : List Lk) (i : Nat) (acc : List Nat), ls.drop i = xs -> acc.length <= i -> ev cfg (.loop 128 3 (q0 bx (sh128_3 (.clo g [c]) (mkS 1 (nR acc)) (.alias (.cell l 3)) (I (ls.map lnkD).length) (I i)))) = some (.loop (.exit 0) (q0 bx (se128_3 (mkS 1 (nR (acc ++ idxs p i xs)))))) := by
  intro xs
  induction xs with
  | nil =>
   intro i acc hd _
   rw [idxs, List.append_nil]
   exact es (fplaces_end hl hb hcl (by rw [hll]; exact drop_nil hd))
  | cons x xs ih =>
   intro i acc hd ha
   obtain ⟨hget, hd', hlt⟩ := drop_cons hd
   have hc := hcall x (mog hget)
   rw [idxs]
   cases acc with
   | nil =>
    have hr := fplaces_round0 hl hb hcl (lnk_get hget) (by rw [hll]; exact hlt) (by rw [hll]; omega) hc
    refine es (hr.trans ?_)
    cases hp : p x with
    | true =>
     rw [if_pos rfl, if_pos rfl]
     exact ih (i + 1) [i] hd' (by simp)
    | false =>
     rw [if_neg fnt, if_neg fnt]
     exact ih (i + 1) [] hd' (by simp)
   | cons a acc =>
    have hr := fplaces_round1 (rs := nR (a :: acc)) hl hb hcl (lnk_get hget) (by rw [hll]; exact hlt) (by rw [hll]; omega) (by rw [nR_len]; simp at ha ⊢; omega) hc
    refine es (hr.trans ?_)
    cases hp : p x with
    | true =>
     rw [if_pos rfl, if_pos rfl]
     have := ih (i + 1) (a :: acc ++ [i]) hd' (by simp at ha ⊢; omega)
     rw [nR_app1, mkS_ne (by simp)] at this
     rw [this, List.append_assoc]; rfl
    | false =>
     rw [if_neg fnt, if_neg fnt]
     exact ih (i + 1) (a :: acc) hd' (by omega)
 exact es (fplaces_f hl hb hcl (loop ls 0 [] rfl (Nat.le_refl _)))
theorem get_app1 {r : Box} (hl : l < bx.length) : (bx ++ [r])[l]? = bx[l]? := gal hl
theorem outsW_ev {ls : List Lk} (hl : l < bx.length) (hb : bx[l]? = some [.dat N, .dat F, Y, .own true 3 (ls.map lnkD)]) (hlen : ls.length <= 1000) (q : Int) :
  ev cfg (.call 84 [.ptr l 0, I q] bx) = Rq (mkS 1 (nR (outsW ls q))) := by
 refine es (fouts_f hl (fplaces_ev (fun x => x.1 == q) (by simp; omega) (by rw [get_app1 hl]; exact hb) (by simp) hlen fun x _ r => es (fouts1_f (by simp) ?_)))
 simp
theorem insW_ev {ls : List Lk} (hl : l < bx.length) (hb : bx[l]? = some [.dat N, .dat F, Y, .own true 3 (ls.map lnkD)]) (hlen : ls.length <= 1000) (q : Int) :
  ev cfg (.call 83 [.ptr l 0, I q] bx) = Rq (mkS 1 (nR (insW ls q))) := by
 refine es (fins_f hl (fplaces_ev (fun x => x.2.1 == q) (by simp; omega) (by rw [get_app1 hl]; exact hb) (by simp) hlen fun x _ r => es (fins1_f (by simp) ?_)))
 simp
theorem gateW_ev {ks : List Blk} (hl : l < bx.length) (hb : bx[l]? = some [.dat N, .dat F, .own true 5 (cB.cBs ks), Y]) {q : Int} (hq : q < ks.length) :
  ev cfg (.call 29 [.ptr l 0, I q] bx) = Rq (B (gateW ks q)) := by
 by_cases h0 : q < 0
 ·have e : gateW ks q = false := by rw [gateW, kidW, if_pos h0]
  rw [e]
  exact es (fgate_neg hl (dqf (by omega)))
 ·obtain ⟨i, rfl⟩ : ∃ i : Nat, q = i := ⟨q.toNat, by omega⟩
  have hi : i < ks.length := by omega
  have hg := gge hi
  rw [gate_iff hg]
  have hr := cBs_get hg
  generalize ks[i] = b at hr
  obtain ⟨k, n, a, ks', ls'⟩ := b
  exact es (fgate_f hl hb hr)
theorem isW_ev {n : Nt} {w : Wb} (hN : IsN n N F) (hw : InvW n w) (hl : l < bx.length) (hb : bx[l]? = some [.dat N, .dat F, .own true 5 (cB.cBs w.ks), .own true 3 (w.ls.map lnkD)]) {q : Int} (hq : q < w.ks.length) {kd : Int} (hk : kd ≠ 0) (sp : Bool) :
  ev cfg (.call 94 [.ptr l 0, I q, I kd, B sp] bx) = Rq (B ((gkW n w q == kd) && (decide (((outsW w.ls q).length : Int) > 1) == sp))) := by
 have hg := gateW_ev hl hb hq
 cases hgw : gateW w.ks q with
 | false =>
  rw [hgw] at hg
  have e : gkW n w q = 0 := by rw [gkW, hgw]; rfl
  rw [e, show ((0 : Int) == kd) = false from beq_eq_false_iff_ne.2 (Ne.symm hk), Bool.false_and]
  exact es (fis_ng hl hg)
 | true =>
  rw [hgw] at hg
  have h0 : ¬ q < 0 := by
   intro h0
   rw [gateW, kidW, if_pos h0] at hgw; cases hgw
  obtain ⟨i, rfl⟩ : ∃ i : Nat, q = i := ⟨q.toNat, by omega⟩
  have hi : i < w.ks.length := by omega
  have hgi := gge hi
  have h8 : w.ks[i].kd = 8 := by rw [gate_iff hgi] at hgw; simpa using hgw
  obtain ⟨g1, _⟩ := (hw.kid i _ hgi).gate h8
  have hnode : nodeW w.ks i = w.ks[i].nd := by rw [nodeW, kid_nat, hgi]
  obtain ⟨nr, fr, hNr, hnr, _⟩ := hN
  obtain ⟨p, hp⟩ : ∃ p : Nat, w.ks[i].nd = p := ⟨w.ks[i].nd.toNat, by omega⟩
  have hpl : p < n.nodes.length := by omega
  obtain ⟨r, hr1, hr2⟩ := hnr.get hpl
  obtain ⟨_, _, op, m, K, rfl, _⟩ := hr2
  have hkn : kindN n p = n.nodes[p].k := by
   rw [kindN, if_neg (by omega)]
   simp [hpl]
  have e : gkW n w i = n.nodes[p].k := by rw [gkW, hgw, if_pos rfl, hnode, hp, hkn]
  rw [e]
  have hrow := cBs_get hgi
  revert hrow hp
  generalize w.ks[i] = b
  intro hp hrow
  obtain ⟨k, n', a, ks', ls'⟩ := b
  simp only [Blk.nd] at hp
  subst hp
  have := fis_f (kd := kd) (sp := sp) hl hb hrow hNr hr1 hg (outsW_ev hl hb (by have := hw.lens; omega) i)
  rw [nR_len] at this
  exact es this
theorem followW_ev {n : Nt} {w : Wb} (hw : InvW n w) (hl : l < bx.length) (hb : bx[l]? = some [.dat N, .dat F, .own true 5 (cB.cBs w.ks), .own true 3 (w.ls.map lnkD)]) {i : Nat} (hi : i < w.ls.length) :
  ev cfg (.call 98 [.ptr l 0, I i] bx) = Rq (.agg [I (followW w i).to, I (followW w i).by_, I (followW w i).last]) := by
 have hlen : w.ls.length <= 1000 := by have := hw.lens; omega
 have hrng := (hw.rng _ (mog (lk_of hi))).2.1
 have hget := lnk_getk hi
 have ht : (lkW w.ls i).2.1 = toW w.ls i := rfl
 rw [ht] at hget hrng
 have hgt : ∀ r : Box, ev cfg (.call 29 [.ptr l 0, I (toW w.ls i)] (bx ++ [r])) = Rq (B (gateW w.ks (toW w.ls i))) := fun r => gateW_ev (by simp; omega) (by rw [get_app1 hl]; exact hb) hrng.2
 rcases follow_cases hw hi with ⟨e, hc⟩ | ⟨b, o, e1, e2, e3, e4, e5, e6⟩
 ·rw [e]
  by_cases h0 : toW w.ls i < 0
  ·exact es (ffollow_neg hl hb hget (dqt h0))
  ·have hg := hc.resolve_left h0
   rw [hg] at hgt
   exact es (ffollow_gate hl hb hget (dqf h0) hgt)
 ·rw [e6]
  have hg : gateW w.ks (toW w.ls i) = false := by rw [e1]; exact e3
  rw [hg] at hgt
  have ho : ∀ r : Box, ev cfg (.call 84 [.ptr l 0, I (toW w.ls i)] (bx ++ [r])) = Rq (.own true 1 ([dI o] :: [])) := fun r => by
   rw [outsW_ev (by simp; omega) (by rw [get_app1 hl]; exact hb) hlen, e1]
   have hk := (single hw (gge e2) e3)
   have h1 : outsW w.ls b = [o] := by
    have h2 := (hw.kid b _ (gge e2)).one (by have := e3; rw [gate_iff (gge e2)] at this; simpa using this)
    rw [hd_one h2.2, (e4.outs _).1 (hd_mem (by rw [h2.2]; exact Nat.one_pos))]
   rw [h1]; rfl
  have := ffollow_f hl hb hget (dqf (by omega)) hgt ho (lnk_getk e5)
  rw [show (lkW w.ls o).2.1 = toW w.ls o from rfl, e1] at this
  have hcall := es this
  exact hcall
theorem partW_ev {ks : List Blk} {ls : List Lk} (hl : l < bx.length) (hb : bx[l]? = some [.dat N, .dat F, .own true 5 (cB.cBs ks), Y]) {x : Wz} (hx : x.by_ < ks.length) :
  ev cfg (.call 97 [.ptr l 0, Aq x.to x.by_ x.last] bx) = Rq (pB (partW ⟨ks, ls⟩ x)) := by
 rw [partW]
 by_cases h0 : x.by_ < 0
 ·have e : kidW ks x.by_ = none := if_pos h0
  rw [e]
  exact es (fpart_neg hl (dqt h0))
 ·obtain ⟨i, hi⟩ : ∃ i : Nat, x.by_ = i := ⟨x.by_.toNat, by omega⟩
  rw [hi] at hx ⊢
  have hil : i < ks.length := by omega
  have hg := gge hil
  rw [kid_nat, hg]
  have hr := cBs_get hg
  generalize ks[i] = b at hr
  obtain ⟨k, n, a, ks', ls'⟩ := b
  exact es (fpart_f hl hb hr (mkD_one 5 _) (mkD_one 3 _))
theorem partsW_ev (b : Blk) (bx : List Box) : ev cfg (.call 92 [pB b] bx) = Rq (.dat (mkD 5 (cB.cBs (partsB b)))) := by
 obtain ⟨k, n, a, ks, ls⟩ := b
 have h := es (fparts_f (bx := bx) (k := k) (n := n) (a := a) (mkD_one 5 (cB.cBs ks)) (mkD_one 3 (ls.map lnkD)))
 rw [pB, h, partsB]
 simp only [beq_iff_eq]
 by_cases h3 : k = 3
 ·rw [if_pos h3, if_pos h3]
 ·rw [if_neg h3, if_neg h3]
  by_cases h1 : k = 1
  ·rw [if_pos h1, if_pos h1]; rfl
  ·rw [if_neg h1, if_neg h1]; rfl
theorem clone5_ev {rows : List (List D)} (h : rows.length <= 1000) (bx : List Box) : ev cfg (.call 60 [.dat (mkD 5 rows)] bx) = Rq (mkS 5 rows) := by
 cases rows with
 | nil => exact es clone5_nil
 | cons r rs => exact es (clone5_rows (by simp at h; omega))
theorem clone3_ev {rows : List (List D)} (h : rows.length <= 1000) (bx : List Box) : ev cfg (.call 61 [.dat (mkD 3 rows)] bx) = Rq (mkS 3 rows) := by
 cases rows with
 | nil => exact es clone3_nil
 | cons r rs => exact es (clone3_rows (by simp at h; omega))
theorem rowW_ev {bs : List Blk} {R : D} (hR : R = mkD 5 (cB.cBs bs) ∨ (bs = [] /\ IsS 5 [] R)) (h : bs.length <= 1000) (bx : List Box) : ev cfg (.call 91 [.dat R] bx) = Rq (pB (rowB bs)) := by
 match bs, hR, h with
 | [], hR, _ =>
  have : IsS 5 [] R := by
   rcases hR with rfl | ⟨_, h⟩
   ·exact mkD_isS 5 []
   ·exact h
  exact es (frow_0 this)
 | [.mk k n a ks ls], hR, _ =>
  have hR : R = _ := hR.resolve_right (fun h => by cases h.1)
  subst hR
  exact es (frow_1 (mkD_isS 5 (cB.cBs [.mk k n a ks ls])) (mkD_one 5 _) (mkD_one 3 _))
 | b1 :: b2 :: bs, hR, h =>
  have hR : R = _ := hR.resolve_right (fun h => by cases h.1)
  subst hR
  have hl : (cB b1 :: cB b2 :: cB.cBs bs).length <= 1000 := by rw [List.length_cons, List.length_cons, cBs_len]; exact h
  exact es (frow_n (mkD_isS 5 (cB b1 :: cB b2 :: cB.cBs bs)) (fun r => clone5_ev (rows := cB b1 :: cB b2 :: cB.cBs bs) hl _) (by omega))
end
def okB : Blk -> Prop
 | .mk _ _ _ ks ls => ks.length <= 200 /\ ls.length <= 100 /\ go ks
where
 go : List Blk -> Prop
 | [] => True
 | b :: bs => okB b /\ go bs
section
variable {bx : List Box} {nr fr : List (List D)} {N F K : D} {i : Nat} {k a op n f t : Int} {e v : Bool}
theorem rc4 (hN : IsS 5 nr N) (hF : Oq F) (hget : nr[i]? = some [dI k, dI a, dI op, dI n, K]) (hlt : i < nr.length) (hmax : nr.length < 9223372036854775808) (hk : Oq K) (hcall : Cq 37 [.agg [I k, I a, I op, I n, .dat K]] (B v)) :
  Jq (.loop 18 4 (qs bx (sh18_4 (P0 bx) (P1 bx) (.dat N) (I nr.length) (I i)) [Nb N F, [I 0, I 0]])) =
   if (!v) = true then some (.loop .ret (qs bx (se18_4 (P0 bx) (P1 bx)) [Nb N F, [I 1, I i]])) else ev cfg (.loop 18 4 (qs bx (sh18_4 (P0 bx) (P1 bx) (.dat N) (I nr.length) (I ((i + 1 : Nat) : Int))) [Nb N F, [I 0, I 0]])) := by
 obtain ⟨w, h1, h2, h3⟩ := hN
 obtain rfl := isS_w h2 hget
 cases v <;> simp (maxSteps:=9000000) only [go_sem, seval, nat_neg, tnc, h1, h3, hF, hk, nat_lt hlt, hget, hcall, nat_succ hlt hmax]
theorem rc4e (hN : Oq N) (hF : Oq F) {m : Nat} (hge : m <= i) :
  Jq (.loop 18 4 (qs bx (sh18_4 (P0 bx) (P1 bx) (.dat N) (I m) (I i)) [Nb N F, [I 0, I 0]])) = some (.loop (.exit 0) (qs bx (se18_4 (P0 bx) (P1 bx)) [Nb N F, [I 0, I 0]])) := by
 simp (maxSteps:=9000000) only [go_sem, seval, nat_ge hge, hN, hF]
theorem rc10 (hN : Oq N) (hF : IsS 6 fr F) (hget : fr[i]? = some [dI f, dI t, .lit (.bool e), dI op, dI n, K]) (hlt : i < fr.length) (hmax : fr.length < 9223372036854775808) (hk : Oq K) (hcall : Cq 38 [Nq N F, .agg [I f, I t, B e, I op, I n, .dat K]] (B v)) :
  Jq (.loop 18 10 (qs bx (sh18_10 (P0 bx) (P1 bx) (.dat F) (I fr.length) (I i)) [Nb N F, [I 0, I 0]])) =
   if (!v) = true then some (.loop .ret (qs bx (se18_10 (P0 bx) (P1 bx)) [Nb N F, [I 2, I i]])) else ev cfg (.loop 18 10 (qs bx (sh18_10 (P0 bx) (P1 bx) (.dat F) (I fr.length) (I ((i + 1 : Nat) : Int))) [Nb N F, [I 0, I 0]])) := by
 obtain ⟨w, h1, h2, h3⟩ := hF
 obtain rfl := isS_w h2 hget
 cases v <;> simp (maxSteps:=9000000) only [go_sem, seval, nat_neg, tnc, h1, h3, hN, hk, nat_lt hlt, hget, hcall, nat_succ hlt hmax]
theorem rc10e (hN : Oq N) (hF : Oq F) {m : Nat} (hge : m <= i) :
  Jq (.loop 18 10 (qs bx (sh18_10 (P0 bx) (P1 bx) (.dat F) (I m) (I i)) [Nb N F, [I 0, I 0]])) = some (.loop (.exit 2) (qs bx (se18_10 (P0 bx) (P1 bx)) [Nb N F, [I 0, I 0]])) := by
 simp (maxSteps:=9000000) only [go_sem, seval, nat_ge hge, hN, hF]
end
section
variable {bx : List Box} {nr : List (List D)} {N F K : D} {i p : Nat} {k a op n s z : Int} {v v2 : Bool} {o o2 : List Bool}
theorem rc18 (hN : IsS 5 nr N) (hF : Oq F) (hget : nr[i]? = some [dI k, dI a, dI op, dI n, K]) (hlt : i < nr.length) (hmax : nr.length < 9223372036854775808) (hk : Oq K) (hcall : Cq 40 [Nq N F, I i] (B v)) :
  Jq (.loop 18 18 (qs bx (sh18_18 (P0 bx) (P1 bx) (I s) (I z) (.dat N) (I nr.length) (I i)) [Nb N F, [I 0, I 0]])) =
   if (!v || ((k == 1 && decide ((i : Int) > s)) || (k == 2 && decide ((i : Int) > z)))) = true then some (.loop .ret (qs bx (se18_18 (P0 bx) (P1 bx) (I s) (I z)) [Nb N F, [I 3, I i]])) else ev cfg (.loop 18 18 (qs bx (sh18_18 (P0 bx) (P1 bx) (I s) (I z) (.dat N) (I nr.length) (I ((i + 1 : Nat) : Int))) [Nb N F, [I 0, I 0]])) := by
 obtain ⟨w, h1, h2, h3⟩ := hN
 obtain rfl := isS_w h2 hget
 cases v <;> cases c1 : (k == 1) <;> cases c2 : decide ((i : Int) > s) <;> cases c3 : (k == 2) <;> cases c4 : decide ((i : Int) > z) <;> simp (maxSteps:=9000000) only [go_sem, seval, nat_neg, tnc, h1, h3, hF, hk, nat_lt hlt, hget, hcall, nat_succ hlt hmax, c1, c2, c3, c4]
theorem rc18e (hN : Oq N) (hF : Oq F) {m : Nat} (hge : m <= i) :
  Jq (.loop 18 18 (qs bx (sh18_18 (P0 bx) (P1 bx) (I s) (I z) (.dat N) (I m) (I i)) [Nb N F, [I 0, I 0]])) = some (.loop (.exit 4) (qs bx (se18_18 (P0 bx) (P1 bx) (I s) (I z)) [Nb N F, [I 0, I 0]])) := by
 simp (maxSteps:=9000000) only [go_sem, seval, nat_ge hge, hN, hF]
theorem rc27 (hN : Oq N) (hF : Oq F) (hlt : i < nr.length) (hmax : nr.length < 9223372036854775808) (hz : z = (p : Nat)) (ho : o[i]? = some v) (ho2 : o2[p]? = some v2) (hcall : Cq 41 [Nq N F, I i] (.own true 1 (rboolR o2))) :
  Jq (.loop 18 27 (qs bx (sh18_27 (P0 bx) (P1 bx) (I z) (.own true 1 (rboolR o)) (I nr.length) (I i)) [Nb N F, [I 0, I 0]])) =
   if (!v || !v2) = true then some (.loop .ret (qs bx (se18_27 (P1 bx)) [Nb N F, [I 4, I i]])) else ev cfg (.loop 18 27 (qs bx (sh18_27 (P0 bx) (P1 bx) (I z) (.own true 1 (rboolR o)) (I nr.length) (I ((i + 1 : Nat) : Int))) [Nb N F, [I 0, I 0]])) := by
 subst hz
 have g1 := rbool_get ho
 have g2 := rbool_get ho2
 have l1 : i < (rboolR o).length := (gsi.1 g1).1
 have l2 : p < (rboolR o2).length := (gsi.1 g2).1
 cases v <;> cases v2 <;> simp (maxSteps:=9000000) only [go_sem, seval, nat_neg, tnc, hN, hF, nat_lt hlt, g1, g2, l1, l2, hcall, nat_succ hlt hmax]
theorem rc27e (hN : Oq N) (hF : Oq F) {m : Nat} (hge : m <= i) :
  Jq (.loop 18 27 (qs bx (sh18_27 (P0 bx) (P1 bx) (I z) (.own true 1 (rboolR o)) (I m) (I i)) [Nb N F, [I 0, I 0]])) = some (.loop (.exit 6) (qs bx (se18_27 (P1 bx)) [Nb N F, [I 0, I 0]])) := by
 simp (maxSteps:=9000000) only [go_sem, seval, nat_ge hge, hN, hF]
end
section
variable {bx : List Box} {nr fr : List (List D)} {N F : D} {s z q : Int} {o : List Bool}
theorem rcheck_big (hN : IsS 5 nr N) (hF : IsS 6 fr F) (hb : (decide ((nr.length : Int) > 24) || decide ((fr.length : Int) > 40)) = true) :
  Jq (.call 18 [Nq N F] bx) = Rq (.agg [I 1, I 0]) := by
 obtain ⟨w, h1, h2, h3⟩ := hN
 obtain ⟨w', g1, g2, g3⟩ := hF
 cases c0 : decide ((nr.length : Int) > 24)
 ·cases c1 : decide ((fr.length : Int) > 40)
  ·simp only [c0, c1, Bool.or_self, Bool.false_eq_true] at hb
  ·simp (maxSteps:=9000000) only [go_sem, seval, h1, h3, g1, g3, c0, c1]
 ·simp (maxSteps:=9000000) only [go_sem, seval, h1, h3, g1, g3, c0]
theorem rcheck_1 (hN : IsS 5 nr N) (hF : IsS 6 fr F) (sz1 : decide ((nr.length : Int) > 24) = false) (sz2 : decide ((fr.length : Int) > 40) = false)
  (hl4 : ev cfg (.loop 18 4 (qs bx (sh18_4 (P0 bx) (P1 bx) (.dat N) (I nr.length) (I 0)) [Nb N F, [I 0, I 0]])) = some (.loop .ret (qs bx (se18_4 (P0 bx) (P1 bx)) [Nb N F, [I 1, I q]]))) :
  Jq (.call 18 [Nq N F] bx) = Rq (.agg [I 1, I q]) := by
 obtain ⟨w, h1, h2, h3⟩ := hN
 obtain ⟨w', g1, g2, g3⟩ := hF
 simp (maxSteps:=9000000) only [go_sem, seval, h1, h3, g1, g3, sz1, sz2, hl4]
theorem rcheck_2 (hN : IsS 5 nr N) (hF : IsS 6 fr F) (sz1 : decide ((nr.length : Int) > 24) = false) (sz2 : decide ((fr.length : Int) > 40) = false)
  (hl4 : ev cfg (.loop 18 4 (qs bx (sh18_4 (P0 bx) (P1 bx) (.dat N) (I nr.length) (I 0)) [Nb N F, [I 0, I 0]])) = some (.loop (.exit 0) (qs bx (se18_4 (P0 bx) (P1 bx)) [Nb N F, [I 0, I 0]])))
  (hl10 : ev cfg (.loop 18 10 (qs bx (sh18_10 (P0 bx) (P1 bx) (.dat F) (I fr.length) (I 0)) [Nb N F, [I 0, I 0]])) = some (.loop .ret (qs bx (se18_10 (P0 bx) (P1 bx)) [Nb N F, [I 2, I q]]))) :
  Jq (.call 18 [Nq N F] bx) = Rq (.agg [I 2, I q]) := by
 obtain ⟨w, h1, h2, h3⟩ := hN
 obtain ⟨w', g1, g2, g3⟩ := hF
 simp (maxSteps:=9000000) only [go_sem, seval, h1, h3, g1, g3, sz1, sz2, hl4, hl10]
theorem rcheck_3 (hN : IsS 5 nr N) (hF : IsS 6 fr F) (sz1 : decide ((nr.length : Int) > 24) = false) (sz2 : decide ((fr.length : Int) > 40) = false)
  (hl4 : ev cfg (.loop 18 4 (qs bx (sh18_4 (P0 bx) (P1 bx) (.dat N) (I nr.length) (I 0)) [Nb N F, [I 0, I 0]])) = some (.loop (.exit 0) (qs bx (se18_4 (P0 bx) (P1 bx)) [Nb N F, [I 0, I 0]])))
  (hl10 : ev cfg (.loop 18 10 (qs bx (sh18_10 (P0 bx) (P1 bx) (.dat F) (I fr.length) (I 0)) [Nb N F, [I 0, I 0]])) = some (.loop (.exit 2) (qs bx (se18_10 (P0 bx) (P1 bx)) [Nb N F, [I 0, I 0]]))) (hs : Cq 39 [Nq N F, I 1] (I s)) (hz : Cq 39 [Nq N F, I 2] (I z))
  (hl18 : ev cfg (.loop 18 18 (qs bx (sh18_18 (P0 bx) (P1 bx) (I s) (I z) (.dat N) (I nr.length) (I 0)) [Nb N F, [I 0, I 0]])) = some (.loop .ret (qs bx (se18_18 (P0 bx) (P1 bx) (I s) (I z)) [Nb N F, [I 3, I q]]))) :
  Jq (.call 18 [Nq N F] bx) = Rq (.agg [I 3, I q]) := by
 obtain ⟨w, h1, h2, h3⟩ := hN
 obtain ⟨w', g1, g2, g3⟩ := hF
 simp (maxSteps:=9000000) only [go_sem, seval, h1, h3, g1, g3, sz1, sz2, hl4, hl10, hs, hz, hl18]
theorem rcheck_3b (hN : IsS 5 nr N) (hF : IsS 6 fr F) (sz1 : decide ((nr.length : Int) > 24) = false) (sz2 : decide ((fr.length : Int) > 40) = false)
  (hl4 : ev cfg (.loop 18 4 (qs bx (sh18_4 (P0 bx) (P1 bx) (.dat N) (I nr.length) (I 0)) [Nb N F, [I 0, I 0]])) = some (.loop (.exit 0) (qs bx (se18_4 (P0 bx) (P1 bx)) [Nb N F, [I 0, I 0]])))
  (hl10 : ev cfg (.loop 18 10 (qs bx (sh18_10 (P0 bx) (P1 bx) (.dat F) (I fr.length) (I 0)) [Nb N F, [I 0, I 0]])) = some (.loop (.exit 2) (qs bx (se18_10 (P0 bx) (P1 bx)) [Nb N F, [I 0, I 0]]))) (hs : Cq 39 [Nq N F, I 1] (I s)) (hz : Cq 39 [Nq N F, I 2] (I z))
  (hl18 : ev cfg (.loop 18 18 (qs bx (sh18_18 (P0 bx) (P1 bx) (I s) (I z) (.dat N) (I nr.length) (I 0)) [Nb N F, [I 0, I 0]])) = some (.loop (.exit 4) (qs bx (se18_18 (P0 bx) (P1 bx) (I s) (I z)) [Nb N F, [I 0, I 0]]))) (hb : (decide (s < 0) || decide (z < 0)) = true) :
  Jq (.call 18 [Nq N F] bx) = Rq (.agg [I 3, I nr.length]) := by
 obtain ⟨w, h1, h2, h3⟩ := hN
 obtain ⟨w', g1, g2, g3⟩ := hF
 cases c0 : decide (s < 0)
 ·cases c1 : decide (z < 0)
  ·simp only [c0, c1, Bool.or_self, Bool.false_eq_true] at hb
  ·simp (maxSteps:=9000000) only [go_sem, seval, h1, h3, g1, g3, sz1, sz2, hl4, hl10, hs, hz, hl18, c0, c1]
 ·simp (maxSteps:=9000000) only [go_sem, seval, h1, h3, g1, g3, sz1, sz2, hl4, hl10, hs, hz, hl18, c0]
theorem rcheck_4 (hN : IsS 5 nr N) (hF : IsS 6 fr F) (sz1 : decide ((nr.length : Int) > 24) = false) (sz2 : decide ((fr.length : Int) > 40) = false)
  (hl4 : ev cfg (.loop 18 4 (qs bx (sh18_4 (P0 bx) (P1 bx) (.dat N) (I nr.length) (I 0)) [Nb N F, [I 0, I 0]])) = some (.loop (.exit 0) (qs bx (se18_4 (P0 bx) (P1 bx)) [Nb N F, [I 0, I 0]])))
  (hl10 : ev cfg (.loop 18 10 (qs bx (sh18_10 (P0 bx) (P1 bx) (.dat F) (I fr.length) (I 0)) [Nb N F, [I 0, I 0]])) = some (.loop (.exit 2) (qs bx (se18_10 (P0 bx) (P1 bx)) [Nb N F, [I 0, I 0]]))) (hs : Cq 39 [Nq N F, I 1] (I s)) (hz : Cq 39 [Nq N F, I 2] (I z))
  (hl18 : ev cfg (.loop 18 18 (qs bx (sh18_18 (P0 bx) (P1 bx) (I s) (I z) (.dat N) (I nr.length) (I 0)) [Nb N F, [I 0, I 0]])) = some (.loop (.exit 4) (qs bx (se18_18 (P0 bx) (P1 bx) (I s) (I z)) [Nb N F, [I 0, I 0]]))) (d1 : decide (s < 0) = false) (d2 : decide (z < 0) = false) (hr : Cq 41 [Nq N F, I s] (.own true 1 (rboolR o)))
  (hl27 : ev cfg (.loop 18 27 (qs bx (sh18_27 (P0 bx) (P1 bx) (I z) (.own true 1 (rboolR o)) (I nr.length) (I 0)) [Nb N F, [I 0, I 0]])) = some (.loop .ret (qs bx (se18_27 (P1 bx)) [Nb N F, [I 4, I q]]))) :
  Jq (.call 18 [Nq N F] bx) = Rq (.agg [I 4, I q]) := by
 obtain ⟨w, h1, h2, h3⟩ := hN
 obtain ⟨w', g1, g2, g3⟩ := hF
 simp (maxSteps:=9000000) only [go_sem, seval, h1, h3, g1, g3, sz1, sz2, hl4, hl10, hs, hz, hl18, d1, d2, hr, hl27]
theorem rcheck_0 (hN : IsS 5 nr N) (hF : IsS 6 fr F) (sz1 : decide ((nr.length : Int) > 24) = false) (sz2 : decide ((fr.length : Int) > 40) = false)
  (hl4 : ev cfg (.loop 18 4 (qs bx (sh18_4 (P0 bx) (P1 bx) (.dat N) (I nr.length) (I 0)) [Nb N F, [I 0, I 0]])) = some (.loop (.exit 0) (qs bx (se18_4 (P0 bx) (P1 bx)) [Nb N F, [I 0, I 0]])))
  (hl10 : ev cfg (.loop 18 10 (qs bx (sh18_10 (P0 bx) (P1 bx) (.dat F) (I fr.length) (I 0)) [Nb N F, [I 0, I 0]])) = some (.loop (.exit 2) (qs bx (se18_10 (P0 bx) (P1 bx)) [Nb N F, [I 0, I 0]]))) (hs : Cq 39 [Nq N F, I 1] (I s)) (hz : Cq 39 [Nq N F, I 2] (I z))
  (hl18 : ev cfg (.loop 18 18 (qs bx (sh18_18 (P0 bx) (P1 bx) (I s) (I z) (.dat N) (I nr.length) (I 0)) [Nb N F, [I 0, I 0]])) = some (.loop (.exit 4) (qs bx (se18_18 (P0 bx) (P1 bx) (I s) (I z)) [Nb N F, [I 0, I 0]]))) (d1 : decide (s < 0) = false) (d2 : decide (z < 0) = false) (hr : Cq 41 [Nq N F, I s] (.own true 1 (rboolR o)))
  (hl27 : ev cfg (.loop 18 27 (qs bx (sh18_27 (P0 bx) (P1 bx) (I z) (.own true 1 (rboolR o)) (I nr.length) (I 0)) [Nb N F, [I 0, I 0]])) = some (.loop (.exit 6) (qs bx (se18_27 (P1 bx)) [Nb N F, [I 0, I 0]]))) :
  Jq (.call 18 [Nq N F] bx) = Rq (.agg [I 0, I 0]) := by
 obtain ⟨w, h1, h2, h3⟩ := hN
 obtain ⟨w', g1, g2, g3⟩ := hF
 simp (maxSteps:=9000000) only [go_sem, seval, h1, h3, g1, g3, sz1, sz2, hl4, hl10, hs, hz, hl18, d1, d2, hr, hl27]
end
end Go.Proofs.YtifckjhggamefaaGreatDoor
