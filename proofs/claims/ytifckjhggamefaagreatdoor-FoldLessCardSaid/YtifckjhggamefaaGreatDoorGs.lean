/- What block.right, linked, splits and the searches answer. No condition. -/
import Derived.Test.YtifckjhggamefaaGreatDoorGr
import Derived.Test.YtifckjhggamefaaGreatDoorGg
set_option linter.unusedSimpArgs false
set_option linter.unusedVariables false
set_option linter.unusedSectionVars false
namespace Go.Proofs.YtifckjhggamefaaGreatDoor
open Go Go.Vx
set_option maxRecDepth 10000
set_option maxHeartbeats 1000000
theorem intHas_ev (xs : List Int) (X : D) (hX : IsS 1 (intR xs) X) (hlen : xs.length < 1000000) (x : Int) (bx : List Box) : ev cfg (.call 49 [.dat X,I x] bx) = Rq (B (xs.any fun y => x == y)) := by
 have oX : Oq X := by obtain ⟨_,_,_,h⟩ := hX; exact h
 have hl : (intR xs).length = xs.length := intR_len xs
 have loop : ∀ (ys : List Int) (i : Nat),xs.drop i = ys -> ∃ q : Option Nat,q.isSome = (ys.any fun y => x == y) /\ ev cfg (.loop 81 2 (q0 bx (sh81_2 (.dat X) (I x) (I (intR xs).length) (I i)))) = some (match q with
   | some j => .loop .ret (q0 bx (se81_2 (I j)))
   | none => .loop (.exit 0) (q0 bx (se81_2 .dead))) := by
  intro ys
  induction ys with
  | nil =>
   intro i hd
   exact ⟨none,rfl,es (intIdx_stop oX (by rw [hl]; exact drop_nil hd))⟩
  | cons y ys ih =>
   intro i hd
   obtain ⟨hget,hd',hlt⟩ := drop_cons hd
   have hr := intIdx_round (bx := bx) (x := x) (y := y) (i := i) hX (by simp [intR,hget]) (by rw [hl]; exact hlt) (by rw [hl]; omega)
   rw [List.any_cons]
   by_cases hx : (x == y) = true
   ·rw [if_pos hx] at hr
    exact ⟨some i,by rw [hx]; rfl,es hr⟩
   ·rw [if_neg hx] at hr
    obtain ⟨q,h1,h2⟩ := ih (i + 1) hd'
    rw [Bool.not_eq_true] at hx
    exact ⟨q,by rw [hx,Bool.false_or]; exact h1,es (hr.trans h2)⟩
 obtain ⟨q,h1,h2⟩ := loop xs 0 rfl
 have hc := es (intHas_call oX (es (intIdx_call hX h2)))
 rw [hc]
 cases q with
 | some j =>
  have e : (xs.any fun y => x == y) = true := h1.symm
  rw [e]
  have : decide (((j : Nat) : Int) >= 0) = true := dqt (by omega)
  simp only [this]
 | none =>
  have e : (xs.any fun y => x == y) = false := h1.symm
  rw [e]; rfl
theorem kids_ev {g : FuncId} {cap : List Nat} (p : Blk -> Bool) {ks : List Blk} {rows : List (List D)} {K : D} (hK : IsS 5 rows K) (hks : IsB.IsBs ks rows) (hmax : ks.length < 9223372036854775808) {bx : List Box} (hcap : (cap.all fun l => decide (l < bx.length)) = true)
  (hcall : ∀ b ∈ ks,∀ k n a K L,IsB b k n a K L -> ev cfg (.call g (Wq k n a K L :: cap.map fun l => .ptr l 0) bx) = Rq (B (p b))) :
  ev cfg (.call 74 [.dat K,.clo g cap] bx) = Rq (B (ks.any p)) := by
 have oK : Oq K := by obtain ⟨_,_,_,h⟩ := hK; exact h
 have hlen := isBs_len hks
 have loop : ∀ (bs : List Blk) (rs : List (List D)) (i : Nat),(∀ b ∈ bs,b ∈ ks) -> rows.drop i = rs -> IsB.IsBs bs rs -> ∃ q : Option Nat,q.isSome = bs.any p /\ ev cfg (.loop 122 2 (q0 bx (sh122_2 (.dat K) (.clo g cap) (I rows.length) (I i)))) = some (match q with
   | some j => .loop .ret (q0 bx (se122_2 (I j)))
   | none => .loop (.exit 0) (q0 bx (se122_2 .dead))) := by
  intro bs
  induction bs with
  | nil =>
   intro rs i hin hd hbs
   rw [IsB.IsBs] at hbs
   subst hbs
   exact ⟨none,rfl,es (kid_end hcap oK (drop_nil hd))⟩
  | cons b bs ih =>
   intro rs i hin hd hbs
   rw [IsB.IsBs] at hbs
   obtain ⟨k,n,a,K',L',rest,rfl,hB,hrest⟩ := hbs
   obtain ⟨hget,hd',hlt⟩ := drop_cons hd
   have hr := kid_round (bx := bx) (v := p b) hcap hK hget hlt (by rw [hlen]; exact hmax) (isB_one hB).1 (isB_one hB).2 (hcall b (hin b (mcs ..)) _ _ _ _ _ hB)
   rw [List.any_cons]
   by_cases hx : p b = true
   ·rw [if_pos hx] at hr
    exact ⟨some i,by rw [hx]; rfl,es hr⟩
   ·rw [if_neg hx] at hr
    obtain ⟨q,h1,h2⟩ := ih rest (i + 1) (fun c hc => hin c (mcm _ hc)) hd' hrest
    rw [Bool.not_eq_true] at hx
    exact ⟨q,by rw [hx,Bool.false_or]; exact h1,es (hr.trans h2)⟩
 obtain ⟨q,h1,h2⟩ := loop ks rows 0 (fun _ h => h) rfl hks
 have hc := es (some_kid hcap oK (es (kid_f hcap hK h2)))
 rw [hc]
 cases q with
 | some j =>
  have e : ks.any p = true := h1.symm
  rw [e]
  have : decide (((j : Nat) : Int) >= 0) = true := dqt (by omega)
  simp only [this]
 | none =>
  have e : ks.any p = false := h1.symm
  rw [e]; rfl
def splitN (n : Nt) (q kd m : Int) : Bool := inN n q && (kindN n q == kd && (decide (m > 1) && ((outsN n q).length : Int) == m))
theorem inN_rows {n : Nt} {nr : List (List D)} (h : nr.length = n.nodes.length) (q : Int) : (decide (q >= 0) && decide (q < (nr.length : Int))) = inN n q := by rw [h]; rfl
theorem inN_nat {n : Nt} {q : Int} (h : inN n q = true) : ∃ p : Nat,q = p /\ p < n.nodes.length := by
 simp only [inN,Bool.and_eq_true,dqE] at h
 exact ⟨q.toNat,by omega,by omega⟩
theorem splits_ev {n : Nt} {N F : D} (h : IsN n N F) (hsz : n.flows.length <= 1000000) (q kd m : Int) (bx : List Box) : ev cfg (.call 120 [Nq N F,I q,I kd,I m] bx) = Rq (B (splitN n q kd m)) := by
 have hh := h
 obtain ⟨oN,oF⟩ := isN_one h
 obtain ⟨nr,fr,hN,hnr,_⟩ := h
 cases hin : inN n q with
 | false => rw [es (splits_no hN oF ((inN_rows hnr.1 q).trans hin)),splitN,hin,Bool.false_and]
 | true =>
  obtain ⟨p,rfl,hp⟩ := inN_nat hin
  obtain ⟨row,hrow,_,_,op,k,K,rfl,hT⟩ := hnr.get hp
  rw [es (splits_go hN oF hrow (mkD_is _ _) fun bx => outs_ev hh hsz p bx),splitN,hin,Bool.true_and,kind_at hp,natR_len]
def badX (nk nf : Nat) (x : Int × Int × Int) : Bool := badLk nk nf x.1 x.2.1 x.2.2
def cntW (g : Int × Int × Int -> Int) (ls : List (Int × Int × Int)) : Nat := (ls.filter fun x => decide (g x < 0)).length
def linkedW (nk nf : Nat) (ls : List (Int × Int × Int)) : Bool := !ls.any (badX nk nf) && (((cntW (·.1) ls : Nat) : Int) == 1 && (((cntW (·.2.1) ls : Nat) : Int) == 1 && decide ((ls.length : Int) <= 40)))
theorem cnt_cons (g : Int × Int × Int -> Int) (x : Int × Int × Int) (ls : List (Int × Int × Int)) : ((cntW g (x :: ls) : Nat) : Int) = (if g x < 0 then 1 else 0) + (cntW g ls : Nat) := by
 unfold cntW
 rw [List.filter_cons]
 by_cases h : g x < 0
 ·simp [h]; omega
 ·simp [h]
theorem linked_evB {n : Nt} {N F : D} (h : IsN n N F) {ks : List Blk} {ls : List (Int × Int × Int)} {rows : List (List D)} {K L : D} (hK : IsS 5 rows K) (hks : IsB.IsBs ks rows) (hL : IsS 3 (ls.map lnkD) L) (hmax : ls.length < 1000000000) (k nd a : Int) (bx : List Box) :
  ev cfg (.call 121 [Nq N F,Wq k nd a K L] bx) = Rq (B (linkedW ks.length n.flows.length ls)) := by
 obtain ⟨oN,oF⟩ := isN_one h
 obtain ⟨nr,fr,hN,hnr,_,hF,hfr,_⟩ := h
 have oK : Oq K := by obtain ⟨_,_,_,h⟩ := hK; exact h
 have oL : Oq L := by obtain ⟨_,_,_,h⟩ := hL; exact h
 have hlen : (ls.map lnkD).length = ls.length := by simp
 have hkl := isBs_len hks
 have hfl := hfr.1
 have loop : ∀ (xs : List (Int × Int × Int)) (i : Nat) (ins outs : Int),ls.drop i = xs -> 0 <= ins -> ins <= i -> 0 <= outs -> outs <= i -> ∃ p q : Int,
   ev cfg (.loop 121 3 (qs bx (sh121_3 (P0 bx) (P1 bx) (I ins) (I outs) (.dat L) (I (ls.map lnkD).length) (I i)) [Nb N F,Wx k nd a K L])) =
    some (if xs.any (badX rows.length fr.length) = true then .loop .ret (qs bx (se121_3 (P1 bx) (B false) (I p) (I q)) [Nb N F,Wx k nd a K L])
    else .loop (.exit 0) (qs bx (se121_3 (P1 bx) .dead (I (ins + (cntW (·.1) xs : Nat))) (I (outs + (cntW (·.2.1) xs : Nat)))) [Nb N F,Wx k nd a K L])) := by
  intro xs
  induction xs with
  | nil =>
   intro i ins outs hd h1 h2 h3 h4
   refine ⟨0,0,?_⟩
   rw [if_neg (by simp)]
   have := es (blink_end (bx := bx) (k := k) (n := nd) (a := a) (ins := ins) (outs := outs) oN oF oK oL (m := (ls.map lnkD).length) (i := i) (by rw [hlen]; exact drop_nil hd))
   rw [this]
   simp [cntW]
  | cons x xs ih =>
   intro i ins outs hd h1 h2 h3 h4
   obtain ⟨hget,hd',hlt⟩ := drop_cons hd
   have hg : (ls.map lnkD)[i]? = some [dI x.1,dI x.2.1,dI x.2.2] := by simp [hget,lnkD]
   rw [List.any_cons]
   cases hb : badX rows.length fr.length x with
   | true =>
    refine ⟨ins,outs,?_⟩
    rw [Bool.true_or,if_pos rfl]
    exact es (blink_bad oN hF hK hL hg (by rw [hlen]; exact hlt) hb)
   | false =>
    have hb' : badLk rows.length fr.length x.1 x.2.1 x.2.2 = false := hb
    simp only [badLk,Bool.or_eq_false_iff] at hb'
    obtain ⟨e1,e2,e3,e4,e5,e6⟩ := hb'
    obtain ⟨p,q,hpq⟩ := ih (i + 1) (if x.1 < 0 then ins + 1 else ins) (if x.2.1 < 0 then outs + 1 else outs) hd' (by split <;> omega) (by split <;> omega) (by split <;> omega) (by split <;> omega)
    refine ⟨p,q,?_⟩
    rw [Bool.false_or]
    have hr := blink_ok (bx := bx) (k := k) (n := nd) (a := a) (ins := ins) (outs := outs) oN hF hK hL hg (by rw [hlen]; exact hlt) (by rw [hlen]; omega) e1 e2 e3 e4 e5 e6 (wrap_lo (by omega) (by omega)) (wrap_lo (by omega) (by omega))
    refine (es (hr.trans hpq)).trans ?_
    have c1 : (if x.1 < 0 then ins + 1 else ins) + ((cntW (·.1) xs : Nat) : Int) = ins + ((cntW (·.1) (x :: xs) : Nat) : Int) := by rw [cnt_cons]; split <;> omega
    have c2 : (if x.2.1 < 0 then outs + 1 else outs) + ((cntW (·.2.1) xs : Nat) : Int) = outs + ((cntW (·.2.1) (x :: xs) : Nat) : Int) := by rw [cnt_cons]; split <;> omega
    rw [c1,c2]
 obtain ⟨p,q,hpq⟩ := loop ls 0 0 0 rfl (by omega) (by omega) (by omega) (by omega)
 rw [hkl,hfl] at hpq
 unfold linkedW
 cases hb : ls.any (badX ks.length n.flows.length) with
 | true =>
  rw [hb,if_pos rfl] at hpq
  rw [es (blink_fno oN oF oK hL hpq)]; rfl
 | false =>
  rw [hb,if_neg (by decide),Int.zero_add,Int.zero_add] at hpq
  rw [es (blink_f oN oF oK hL hpq),hlen]; rfl
def headBad (k a : Int) (nl : Nat) : Bool := ((a != 0) && ((k != 7) || (a != 1))) || (decide ((nl : Int) > 0) && (k != 9))
def kB : Blk -> Int
 | .mk k _ _ _ _ => k
def rightB (n : Nt) (k nd a : Int) (ks : List Blk) (ls : List (Int × Int × Int)) : Bool :=
 if headBad k a ls.length = true then false
 else if k = 1 ∨ k = 10 then nd == 0 && (ks.length : Int) == 0
 else if k = 2 then inN n nd && ((ks.length : Int) == 0 && [3,4,8].any fun y => kindN n nd == y)
 else if k = 8 then inN n nd && ((ks.length : Int) == 0 && [5,6,7].any fun y => kindN n nd == y)
 else if k = 3 then nd == 0 && (decide ((ks.length : Int) > 1) && !(ks.any fun b => kB b == 3))
 else if k = 4 then splitN n nd 6 ks.length
 else if k = 5 then splitN n nd 5 ks.length
 else if k = 6 then splitN n nd 7 ks.length
 else if k = 7 then (ks.length : Int) == 2 && splitN n nd 5 ks.length
 else if k = 9 then nd == 0 && (decide ((ks.length : Int) > 0) && linkedW ks.length n.flows.length ls)
 else false
theorem right_ev3 {n : Nt} {N F : D} (h : IsN n N F) (hsz : n.flows.length <= 1000) {k nd a : Int} {ks : List Blk} {ls : List (Int × Int × Int)} {K L : D} (hB : IsB (.mk k nd a ks ls) k nd a K L) (hlm : ls.length < 1000000000) (bx : List Box) :
  ev cfg (.call 73 [Nq N F,Wq k nd a K L] bx) = Rq (B (rightB n k nd a ks ls)) := by
 have hh := h
 obtain ⟨oN,oF⟩ := isN_one h
 obtain ⟨nr,fr,hN,hnr,_,hF,hfr,_⟩ := h
 rw [IsB] at hB
 obtain ⟨_,_,_,_,_,_,rows,hK,hks,hmax,hL,_,_⟩ := hB
 have hkl := isBs_len hks
 have hll : (ls.map lnkD).length = ls.length := by simp
 rw [rightB]
 cases hb : headBad k a ls.length with
 | true =>
  rw [if_pos rfl]
  refine es (bright_no hN oF hK hL ?_)
  rw [hll]; exact hb
 | false =>
  rw [if_neg (by decide)]
  have hb' := hb
  simp only [headBad,Bool.or_eq_false_iff,Bool.and_eq_false_iff] at hb'
  obtain ⟨hb1,hb2⟩ := hb'
  have ha0 : k ≠ 7 -> a = 0 := fun h7 => by
   rcases hb1 with h | h
   ·simpa using h
   ·exact absurd (by simpa using h.1) h7
  have hl0 : k ≠ 9 -> decide (((ls.map lnkD).length : Int) > 0) = false := fun h9 => by
   have : (k != 9) = true := by simpa using h9
   rw [this] at hb2
   rw [hll]
   simpa using hb2
  by_cases k1 : k = 1
  ·subst k1
   obtain rfl := ha0 (by decide)
   rw [if_pos (.inl rfl),<- hkl]
   exact es (bright_1 hN oF hK hL (hl0 (by decide)))
  by_cases k10 : k = 10
  ·subst k10
   obtain rfl := ha0 (by decide)
   rw [if_pos (.inr rfl),<- hkl]
   exact es (bright_10 hN oF hK hL (hl0 (by decide)))
  rw [if_neg (by simp [k1,k10])]
  by_cases k2 : k = 2
  ·subst k2
   obtain rfl := ha0 (by decide)
   rw [if_pos rfl]
   cases hin : inN n nd with
   | false => rw [Bool.false_and]; exact es (bright_2no hN oF hK hL (hl0 (by decide)) ((inN_rows hnr.1 nd).trans hin))
   | true =>
    obtain ⟨p,rfl,hp⟩ := inN_nat hin
    obtain ⟨row,hrow,_,_,op,m,K2,rfl,hT⟩ := hnr.get hp
    rw [Bool.true_and,kind_at hp,<- hkl]
    exact es (bright_2go hN oF hK hL (hl0 (by decide)) hrow fun bx => intHas_ev [3,4,8] _ (isS_sl 1 _) (by decide) _ bx)
  rw [if_neg k2]
  by_cases k8 : k = 8
  ·subst k8
   obtain rfl := ha0 (by decide)
   rw [if_pos rfl]
   cases hin : inN n nd with
   | false => rw [Bool.false_and]; exact es (bright_8no hN oF hK hL (hl0 (by decide)) ((inN_rows hnr.1 nd).trans hin))
   | true =>
    obtain ⟨p,rfl,hp⟩ := inN_nat hin
    obtain ⟨row,hrow,_,_,op,m,K2,rfl,hT⟩ := hnr.get hp
    rw [Bool.true_and,kind_at hp,<- hkl]
    exact es (bright_8go hN oF hK hL (hl0 (by decide)) hrow fun bx => intHas_ev [5,6,7] _ (isS_sl 1 _) (by decide) _ bx)
  rw [if_neg k8]
  by_cases k3 : k = 3
  ·subst k3
   obtain rfl := ha0 (by decide)
   rw [if_pos rfl,<- hkl]
   refine es (bright_3 hN oF hK hL (hl0 (by decide)) fun bx => kids_ev (fun b => kB b == 3) hK hks hmax rfl fun b _ k' n' a' K' L' hB' => ?_)
   have e : k' = kB b := by cases b; rw [IsB] at hB'; exact hB'.1
   subst e
   exact es (right1_f (isB_one hB').1 (isB_one hB').2)
  rw [if_neg k3]
  by_cases k4 : k = 4
  ·subst k4
   obtain rfl := ha0 (by decide)
   rw [if_pos rfl,<- hkl]
   exact es (bright_4 hN oF hK hL (hl0 (by decide)) fun bx => splits_ev hh (by omega) nd 6 _ bx)
  rw [if_neg k4]
  by_cases k5 : k = 5
  ·subst k5
   obtain rfl := ha0 (by decide)
   rw [if_pos rfl,<- hkl]
   exact es (bright_5 hN oF hK hL (hl0 (by decide)) fun bx => splits_ev hh (by omega) nd 5 _ bx)
  rw [if_neg k5]
  by_cases k6 : k = 6
  ·subst k6
   obtain rfl := ha0 (by decide)
   rw [if_pos rfl,<- hkl]
   exact es (bright_6 hN oF hK hL (hl0 (by decide)) fun bx => splits_ev hh (by omega) nd 7 _ bx)
  rw [if_neg k6]
  by_cases k7 : k = 7
  ·subst k7
   rw [if_pos rfl,<- hkl]
   refine es (bright_7 hN oF hK hL (hl0 (by decide)) ?_ fun bx => splits_ev hh (by omega) nd 5 _ bx)
   rcases hb1 with h1 | h1
   ·rw [h1]; rfl
   ·rw [h1.2,Bool.and_false]
  rw [if_neg k7]
  by_cases k9 : k = 9
  ·subst k9
   obtain rfl := ha0 (by decide)
   rw [if_pos rfl]
   have := es (bright_9 (n := nd) (bx := bx) (fun bx => linked_evB hh hK hks hL hlm 9 nd 0 bx) hN oF hK hL)
   rw [this,hkl]
  rw [if_neg k9]
  obtain rfl := ha0 k7
  exact es (bright_o hN oF hK hL (hl0 k9) (by simpa using k1) (by simpa using k10) (by simpa using k2) (by simpa using k8) (by simpa using k3) (by simpa using k4) (by simpa using k5) (by simpa using k6) (by simpa using k7) (by simpa using k9))
def nestB (n : Nt) : Blk -> Bool
 | .mk k nd a ks ls => rightB n k nd a ks ls && !go k ks
where
 /-- is some kid wrong? -/
 go (pk : Int) : List Blk -> Bool
 | [] => false
 | b :: bs => (kB b == 9 || (kB b == 10 || ((kB b == 8 && pk != 9) || !nestB n b))) || go pk bs
theorem nest_any (n : Nt) (pk : Int) : ∀ bs : List Blk,nestB.go n pk bs = bs.any fun b => kB b == 9 || (kB b == 10 || ((kB b == 8 && pk != 9) || !nestB n b))
 | [] => by rw [nestB.go]; rfl
 | b :: bs => by rw [nestB.go,List.any_cons,nest_any n pk bs]
def okL : Blk -> Prop
 | .mk _ _ _ ks ls => ls.length < 1000000000 /\ go ks
where
 go : List Blk -> Prop
 | [] => True
 | b :: bs => okL b /\ go bs
theorem okL_mem : ∀ {bs : List Blk},okL.go bs -> ∀ b ∈ bs,okL b
 | [],_,b,h => by cases h
 | c :: bs,h,b,hb => by
  rw [okL.go] at h
  rcases List.mem_cons.1 hb with rfl | hb
  ·exact h.1
  ·exact okL_mem h.2 b hb
theorem cap_new {bx : List Box} {c d : Box} : ([bx.length + 1,bx.length].all fun l => decide (l < (bx ++ [c,d]).length)) = true := by simp
theorem nest_ev {n : Nt} {N F : D} (h : IsN n N F) (hsz : n.flows.length <= 1000) : ∀ (b : Blk) {k nd a : Int} {K L : D},IsB b k nd a K L -> okL b -> ∀ bx : List Box,
  ev cfg (.call 43 [Nq N F,Wq k nd a K L] bx) = Rq (B (nestB n b))
 | .mk _ _ _ ks ls,k,nd,a,K,L,hB,hok,bx => by
  have hB0 := hB
  obtain ⟨oN,oF⟩ := isN_one h
  obtain ⟨oK,oL⟩ := isB_one hB
  rw [IsB] at hB
  obtain ⟨rfl,rfl,rfl,_,_,_,rows,hK,hks,hmax,hL,_,_⟩ := hB
  rw [okL] at hok
  have hr := fun bx : List Box => right_ev3 h hsz hB0 hok.1 bx
  rw [nestB]
  cases hrb : rightB n k nd a ks ls with
  | false =>
   rw [hrb] at hr
   rw [Bool.false_and]
   exact es (nest_no oK oL oN oF hr)
  | true =>
   rw [hrb] at hr
   rw [Bool.true_and,nest_any]
   refine es (nest_f oK oL oN oF hr ?_)
   refine kids_ev _ hK hks hmax cap_new fun b hb k' n' a' K' L' hB' => ?_
   have e : k' = kB b := by cases b; rw [IsB] at hB'; exact hB'.1
   subst e
   exact es (nest1_f (isB_one hB').1 (isB_one hB').2 oN oF (by simp) (by simp) (by rw [app_get]; rfl) (by rw [app_get0]; rfl) fun bx => nest_ev h hsz b hB' (okL_mem hok.2 b hb) bx)
termination_by b => SizeOf.sizeOf b
decreasing_by
 have := List.sizeOf_lt_of_mem hb
 simp
 omega
def dupB (l : List Int) : Bool := decide ((Lib.compact (sortI l)).length < (sortI l).length)
def chkB (ok : Bool) (n : Nt) (b : Blk) : Int :=
 if ok = false then 1 else if longB b = true then 2 else if nestB n b = false then 4 else if dupB (nodesB n b) = true then 8 else 0
theorem clone_ev (xs : List Int) (hl : xs.length < 1000000000) (bx : List Box) : ev cfg (.call 46 [.dat (mkD 1 (intR xs))] bx) = Rq (mkS 1 (intR xs)) := by
 cases xs with
 | nil => exact es clone_nil
 | cons x xs => exact es (clone_rows (r := [dI x]) (rs := intR xs) (by rw [intR_len]; simp at hl; omega))
theorem bcheck_ev {n : Nt} {N F : D} (h : IsN n N F) (hfl : n.flows.length <= 1000) (hnd : n.nodes.length <= 1000) (hz : ∀ t ∈ termsN n,sizeT t <= 1000000) (ok : Bool) (hk : ok = true ↔ OkN n)
  (b : Blk) {k nd a : Int} {K L : D} (hB : IsB b k nd a K L) (hbz : sizeB b <= 1000) (hok : okL b) (bx : List Box) :
  ev cfg (.call 19 [Nq N F,Wq k nd a K L] bx) = Rq (I (chkB ok n b)) := by
 obtain ⟨oN,oF⟩ := isN_one h
 obtain ⟨oK,oL⟩ := isB_one hB
 obtain ⟨r,q,hr,hn⟩ := ncheck_ev h hfl hnd hz
 unfold chkB
 cases ok with
 | false =>
  rw [if_pos rfl]
  have h0 : ¬ OkN n := fun h => by have := hk.2 h; cases this
  have : (r != 0) = true := by simpa using fun e => h0 (hr.1 e)
  exact es (bcheck_arg oK oL oN oF hn this)
 | true =>
  rw [if_neg (by decide)]
  obtain rfl : r = 0 := hr.2 (hk.1 rfl)
  have hlg := fun bx : List Box => long_ev b hB (by omega) bx
  cases h1 : longB b with
  | true =>
   rw [h1] at hlg
   rw [if_pos rfl]
   exact es (bcheck_long oK oL oN oF hn hlg)
  | false =>
   rw [h1] at hlg
   rw [if_neg (by decide)]
   have hns := fun bx : List Box => nest_ev h hfl b hB hok bx
   cases h2 : nestB n b with
   | false =>
    rw [h2] at hns
    rw [if_pos rfl]
    exact es (bcheck_form oK oL oN oF hn hlg hns)
   | true =>
    rw [h2] at hns
    rw [if_neg (by decide)]
    have hno := fun bx : List Box => nodes_ev h hfl b hB hbz bx
    have hlen := nodesB_len hfl b
    have hsl : (sortI (nodesB n b)).length = (nodesB n b).length := List.length_mergeSort ..
    have hcl := fun bx : List Box => clone_ev (sortI (nodesB n b)) (by rw [hsl]; omega) bx
    unfold dupB
    cases hs : sortI (nodesB n b) with
    | nil =>
     rw [hs] at hno hcl
     have : decide ((Lib.compact ([] : List Int)).length < ([] : List Int).length) = false := by simp
     rw [this,if_neg (by decide)]
     exact es (bcheck_nil oK oL oN oF hn hlg hns hno hcl)
    | cons y ys =>
     rw [hs] at hno hcl
     have hzl : (y :: ys).length < 4611686018427387904 := by rw [<- hs,hsl]; omega
     have e : decide (((rowsOf (Lib.compact (y :: ys))).length : Int) < ((intR (y :: ys)).length : Int)) = decide ((Lib.compact (y :: ys)).length < (y :: ys).length) := by
      rw [show (rowsOf (Lib.compact (y :: ys))).length = (Lib.compact (y :: ys)).length by simp [rowsOf],intR_len]
      exact decide_eq_decide.2 (by omega)
     cases hd : decide ((Lib.compact (y :: ys)).length < (y :: ys).length) with
     | true =>
      rw [hd] at e
      rw [if_pos rfl]
      exact es (bcheck_same oK oL oN oF hn hlg hns hno hcl (intRows_intR _) hzl e)
     | false =>
      rw [hd] at e
      rw [if_neg (by decide)]
      exact es (bcheck_ok oK oL oN oF hn hlg hns hno hcl (intRows_intR _) hzl e)
theorem rnone_ev (t : Trm) {op n : Int} {K : D} (h : IsT t op n K) (bx : List Box) : ev cfg (.call 70 [Tq op n K] bx) = Rq (B (noneT t)) := by
 obtain ⟨op',n',ks⟩ := t
 rw [IsT] at h
 obtain ⟨rfl,rfl,_,_,rows,hK,hks,_⟩ := h
 rw [es (rnone_r hK),isTs_len hks]
 have e : (op == 0 && (n == 0 && (ks.length : Int) == 0)) = noneT (.mk op n ks) := by
  rw [noneT,<- Bool.and_assoc]
  congr 1
  cases ks with
  | nil => rfl
  | cons b bs =>
   have : (((b :: bs).length : Int) == 0) = false := by rw [beq_eq_false_iff_ne]; simp; omega
   rw [this]; rfl
 rw [e]
theorem rof_ev (t : Trm) {op n : Int} {K : D} (h : IsT t op n K) (hz : sizeT t <= 1000000) (k : Int) (bx : List Box) : ev cfg (.call 69 [Tq op n K,I k] bx) = Rq (B (ofT t k)) :=
 es (rof_r (isT_one h) fun bx => rcheck_ev t h hz bx)
theorem rone_ev (x : Nd) {op n : Int} {K : D} (h : IsT x.t op n K) (hz : sizeT x.t <= 1000000) (bx : List Box) : ev cfg (.call 37 [.agg [I x.k,I x.a,I op,I n,.dat K]] bx) = Rq (B (rightN ofT x)) := by
 obtain ⟨k,a,t⟩ := x
 simp only at h hz ⊢
 have hn := fun bx : List Box => rnone_ev t h bx
 have ho := fun bx : List Box => rof_ev t h hz 1 bx
 by_cases hb : (decide (k < 1) || (decide (k > 8) || decide (a < 0))) = true
 ·rw [es (rone_bad (isT_one h) hb)]
  simp only [Bool.or_eq_true,dqE] at hb
  rw [rightN]
  by_cases h4 : k = 4
  ·subst h4
   rw [if_pos rfl]
   have : decide (0 <= a) = false := dqf (by omega)
   simp [this]
  ·rw [if_neg h4]
   by_cases h1 : k < 1
   ·have : decide (1 <= k) = false := dqf (by omega)
    simp [this]
   by_cases h8 : k > 8
   ·have : decide (k <= 8) = false := dqf (by omega)
    simp [this]
   have : decide (0 <= a) = false := dqf (by omega)
   simp [this]
 ·simp only [Bool.or_eq_true,not_or,Bool.not_eq_true] at hb
  obtain ⟨b1,b2,b3⟩ := hb
  have c1 : decide (1 <= k) = true := dqt (by simp at b1; omega)
  have c2 : decide (k <= 8) = true := dqt (by simp at b2; omega)
  have c3 : decide (0 <= a) = true := dqt (by simp at b3; omega)
  rw [rightN]
  by_cases h4 : k = 4
  ·subst h4
   rw [if_pos rfl,es (rone_4 (isT_one h) b3 ho)]
   have : decide (a < 4) = decide (a <= 3) := decide_eq_decide.2 (by omega)
   simp only [c3,this,Bool.true_and,Bool.and_comm]
  rw [if_neg h4]
  simp only [c1,c2,c3,Bool.true_and]
  by_cases h3 : k = 3
  ·subst h3
   rw [es (rone_3 (isT_one h) b3 hn)]; rfl
  by_cases h8 : k = 8
  ·subst h8
   rw [es (rone_8 (isT_one h) b3 hn)]; rfl
  ·rw [es (rone_o (isT_one h) b1 b2 b3 (by simpa using h4) (by simpa using h3) (by simpa using h8) hn),most,if_neg h3,if_neg h8]
theorem routs_ev {n : Nt} {N F : D} (h : IsN n N F) (hsz : n.flows.length <= 1000000) (q : Int) (bx : List Box) : ev cfg (.call 55 [Nq N F,I q] bx) = Rq (.dat (mkD 1 (natR (outsN n q)))) := by
 obtain ⟨oN,oF⟩ := isN_one h
 obtain ⟨nr,fr,hN,_,_,hF,hfr,hmax⟩ := h
 have hlen : fr.length = n.flows.length := hfr.1
 have loop : ∀ (fs : List Fl) (i : Nat) (acc : List Nat),n.flows.drop i = fs -> acc.length <= i -> ∀ c : Box,c.all (cellLt (bx.length + 1)) = true →
   ev cfg (.loop 55 3 (qs bx (sh55_3 (I q) (mkS 1 (natR acc)) (.dat F) (I fr.length) (I i)) [c])) = some (.loop (.exit 0) (qs bx (se55_3 (mkS 1 (natR (acc ++ idxs (fun f => f.fr == q) i fs)))) [c])) := by
  intro fs
  induction fs with
  | nil =>
   intro i acc hd ha c hc
   rw [idxs,List.append_nil]
   exact es (routs_end oF hc (by rw [hlen]; exact drop_nil hd))
  | cons f fs ih =>
   intro i acc hd ha c hc
   obtain ⟨hget,hd',hlt⟩ := drop_cons hd
   obtain ⟨row,hrow,_,_,op,m,K,rfl,hT⟩ := hfr.2 i f hget
   have hks : ((natR acc).length + 1) * 8 <= 140737488355328 := by rw [natR_len]; omega
   have e : acc ++ idxs (fun f => f.fr == q) i (f :: fs) = (if (f.fr == q) = true then acc ++ [i] else acc) ++ idxs (fun f => f.fr == q) (i + 1) fs := by
    rw [idxs]
    split <;> simp
   rw [e]
   have hacc : (if (f.fr == q) = true then acc ++ [i] else acc).length <= i + 1 := by split <;> (try simp) <;> omega
   have := ih (i + 1) (if (f.fr == q) = true then acc ++ [i] else acc) hd' hacc c hc
   refine es (Eq.trans ?_ this)
   cases acc with
   | nil =>
    refine (routs_round0 hF hc hrow (by rw [hlen]; exact hlt) (by rw [hlen]; exact hmax) (isT_one hT)).trans ?_
    cases (f.fr == q) <;> rfl
   | cons a acc =>
    refine (routs_round1 (rs := natR (a :: acc)) hF hc hrow (by rw [hlen]; exact hlt) (by rw [hlen]; exact hmax) (isT_one hT) hks).trans ?_
    cases (f.fr == q)
    ·rfl
    ·simp only [if_true,natR_app]; rfl
 refine es (routs_f oN hF fun c hc => ?_)
 have := loop n.flows 0 [] rfl (Nat.le_refl _) c hc
 rw [List.nil_append] at this
 exact this
theorem rins_ev {n : Nt} {N F : D} (h : IsN n N F) (hsz : n.flows.length <= 1000000) (q : Int) (bx : List Box) : ev cfg (.call 54 [Nq N F,I q] bx) = Rq (.dat (mkD 1 (natR (insN n q)))) := by
 obtain ⟨oN,oF⟩ := isN_one h
 obtain ⟨nr,fr,hN,_,_,hF,hfr,hmax⟩ := h
 have hlen : fr.length = n.flows.length := hfr.1
 have loop : ∀ (fs : List Fl) (i : Nat) (acc : List Nat),n.flows.drop i = fs -> acc.length <= i -> ∀ c : Box,c.all (cellLt (bx.length + 1)) = true →
   ev cfg (.loop 54 3 (qs bx (sh54_3 (I q) (mkS 1 (natR acc)) (.dat F) (I fr.length) (I i)) [c])) = some (.loop (.exit 0) (qs bx (se54_3 (mkS 1 (natR (acc ++ idxs (fun f => f.to == q) i fs)))) [c])) := by
  intro fs
  induction fs with
  | nil =>
   intro i acc hd ha c hc
   rw [idxs,List.append_nil]
   exact es (rins_end oF hc (by rw [hlen]; exact drop_nil hd))
  | cons f fs ih =>
   intro i acc hd ha c hc
   obtain ⟨hget,hd',hlt⟩ := drop_cons hd
   obtain ⟨row,hrow,_,_,op,m,K,rfl,hT⟩ := hfr.2 i f hget
   have hks : ((natR acc).length + 1) * 8 <= 140737488355328 := by rw [natR_len]; omega
   have e : acc ++ idxs (fun f => f.to == q) i (f :: fs) = (if (f.to == q) = true then acc ++ [i] else acc) ++ idxs (fun f => f.to == q) (i + 1) fs := by
    rw [idxs]
    split <;> simp
   rw [e]
   have hacc : (if (f.to == q) = true then acc ++ [i] else acc).length <= i + 1 := by split <;> (try simp) <;> omega
   have := ih (i + 1) (if (f.to == q) = true then acc ++ [i] else acc) hd' hacc c hc
   refine es (Eq.trans ?_ this)
   cases acc with
   | nil =>
    refine (rins_round0 hF hc hrow (by rw [hlen]; exact hlt) (by rw [hlen]; exact hmax) (isT_one hT)).trans ?_
    cases (f.to == q) <;> rfl
   | cons a acc =>
    refine (rins_round1 (rs := natR (a :: acc)) hF hc hrow (by rw [hlen]; exact hlt) (by rw [hlen]; exact hmax) (isT_one hT) hks).trans ?_
    cases (f.to == q)
    ·rfl
    ·simp only [if_true,natR_app]; rfl
 refine es (rins_f oN hF fun c hc => ?_)
 have := loop n.flows 0 [] rfl (Nat.le_refl _) c hc
 rw [List.nil_append] at this
 exact this
theorem rfirst_ev {n : Nt} {N F : D} (h : IsN n N F) (k : Int) (bx : List Box) : ev cfg (.call 39 [Nq N F,I k] bx) = Rq (I (firstK k 0 n.nodes)) := by
 obtain ⟨oN,oF⟩ := isN_one h
 obtain ⟨nr,fr,hN,hnr,hmax,_⟩ := h
 have hlen : nr.length = n.nodes.length := hnr.1
 have loop : ∀ (xs : List Nd) (i : Nat),n.nodes.drop i = xs -> ∃ y : Option Int,firstK k i xs = y.getD (-1) /\ ∀ c : Box,c.all (cellLt (bx.length + 1)) = true -> ev cfg (.loop 39 2 (qs bx (sh39_2 (I k) (.dat N) (I nr.length) (I i)) [c])) = some (match y with
   | some j => .loop .ret (qs bx (se39_2 (I j)) [c])
   | none => .loop (.exit 0) (qs bx (se39_2 .dead) [c])) := by
  intro xs
  induction xs with
  | nil =>
   intro i hd
   exact ⟨none,rfl,fun c hc => es (rfirst_end oN hc (by rw [hlen]; exact drop_nil hd))⟩
  | cons x xs ih =>
   intro i hd
   obtain ⟨hget,hd',hlt⟩ := drop_cons hd
   obtain ⟨row,hrow,_,_,op,m,K,rfl,hT⟩ := hnr.2 i x hget
   have hr := fun (c : Box) (hc : c.all (cellLt (bx.length + 1)) = true) => rfirst_round (bx := bx) (q := k) hN oF hc hrow (by rw [hlen]; exact hlt) (by rw [hlen]; exact hmax) (isT_one hT)
   rw [firstK]
   by_cases hx : x.k = k
   ·rw [if_pos hx]
    refine ⟨some i,rfl,fun c hc => ?_⟩
    have := hr c hc
    rw [show (x.k == k) = true by simpa using hx,if_pos rfl] at this
    exact es this
   ·rw [if_neg hx]
    obtain ⟨y,h1,h2⟩ := ih (i + 1) hd'
    refine ⟨y,by simpa using h1,fun c hc => ?_⟩
    have := hr c hc
    rw [show (x.k == k) = false by simpa using hx,if_neg (by decide)] at this
    exact es (this.trans (h2 c hc))
 obtain ⟨y,h1,h2⟩ := loop n.nodes 0 rfl
 have h1' : firstK k 0 n.nodes = y.getD (-1) := h1
 rw [h1']
 exact es (rfirst_f hN oF h2)
theorem rtwo_ev {n : Nt} {N F : D} (h : IsN n N F) (hsz : n.flows.length <= 1000000) (f : Fl) {op m : Int} {K : D} (hT : IsT f.c op m K) (hz : sizeT f.c <= 1000000) (bx : List Box) :
  ev cfg (.call 38 [Nq N F,.agg [I f.fr,I f.to,B f.els,I op,I m,.dat K]] bx) = Rq (B (leadsN ofT n f)) := by
 have hh := h
 obtain ⟨oN,oF⟩ := isN_one h
 obtain ⟨nr,fr,hN,hnr,_⟩ := h
 have hlen : nr.length = n.nodes.length := hnr.1
 by_cases hb : (decide (f.fr < 0) || (decide (f.fr >= (nr.length : Int)) || (decide (f.to < 0) || (decide (f.to >= (nr.length : Int)) || f.fr == f.to)))) = true
 ·rw [es (rtwo_bad hN oF (isT_one hT) hb)]
  simp only [Bool.or_eq_true,dqE,beq_iff_eq] at hb
  have : (inN n f.fr && inN n f.to && (f.fr != f.to)) = false := by
   rw [Bool.eq_false_iff]
   intro hc
   simp only [inN,Bool.and_eq_true,dqE,bne_iff_ne,ne_eq] at hc
   omega
  rw [leadsN,this,Bool.false_and]
 ·simp only [Bool.or_eq_true,not_or,Bool.not_eq_true] at hb
  obtain ⟨b1,b2,b3,b4,b5⟩ := hb
  have c1 : ¬ f.fr < 0 := by simpa using b1
  have c2 : ¬ f.fr >= (nr.length : Int) := by simpa using b2
  have c3 : ¬ f.to < 0 := by simpa using b3
  have c4 : ¬ f.to >= (nr.length : Int) := by simpa using b4
  have c5 : f.fr ≠ f.to := by simpa using b5
  have hin : (inN n f.fr && inN n f.to && (f.fr != f.to)) = true := by
   simp only [inN,Bool.and_eq_true,dqE,bne_iff_ne,ne_eq]
   omega
  obtain ⟨p,hp⟩ : ∃ p : Nat,f.fr = p := ⟨f.fr.toNat,by omega⟩
  have hpl : p < n.nodes.length := by omega
  obtain ⟨row,hrow,_,_,op2,m2,K2,rfl,hT2⟩ := hnr.get hpl
  have hkind : kindN n f.fr = n.nodes[p].k := by rw [hp]; exact kind_at hpl
  have hn := fun bx : List Box => rnone_ev f.c hT bx
  have ho := fun bx : List Box => rof_ev f.c hT hz 2 bx
  rw [leadsN,hin,Bool.true_and,hkind]
  rw [hp] at b1 b2 b5 ⊢
  by_cases h5 : n.nodes[p].k = 5
  ·rw [h5] at hrow ⊢
   rw [es (rtwo_5 (e := f.els) hN oF (isT_one hT) hrow b1 b2 b3 b4 b5 (mkD_is _ _) (fun bx => routs_ev hh hsz p bx) hn ho),natR_len]
   by_cases hg : ((outsN n p).length : Int) >= 2
   ·rw [if_pos hg,if_neg (show ¬ ((5 : Int) ≠ 5 ∨ (outsN n p).length < 2) by omega)]
   ·rw [if_neg hg,if_pos (show (5 : Int) ≠ 5 ∨ (outsN n p).length < 2 by omega)]
  ·rw [es (rtwo_o (v2 := false) (e := f.els) hN oF (isT_one hT) hrow b1 b2 b3 b4 b5 (by simpa using h5) hn),if_pos (.inl h5)]
theorem rthree_ev {n : Nt} {N F : D} (h : IsN n N F) (hsz : n.flows.length <= 1000000) (hE : Ends n) {p : Nat} (hp : p < n.nodes.length) (bx : List Box) :
  ev cfg (.call 40 [Nq N F,I p] bx) = Rq (B (linkedN n p)) := by
 have hO := fun bx : List Box => routs_ev h hsz p bx
 have hI := fun bx : List Box => rins_ev h hsz p bx
 have hol : (outsN n p).length <= 1000000 := Nat.le_trans (idxs_len _ _ _) hsz
 obtain ⟨o1,o2⟩ := isN_one h
 obtain ⟨nr,fr,hN,hnr,_,hF,hfr,_⟩ := h
 obtain ⟨row,hrow,_,_,op2,m2,K2,rfl,hT2⟩ := hnr.get hp
 have hX := mkD_is 1 (natR (outsN n p))
 have hXl : (natR (outsN n p)).length = (outsN n p).length := natR_len _
 have loop : ∀ (os : List Nat) (i el ot : Nat),(outsN n p).drop i = os -> el <= i -> ot <= i →
   ev cfg (.loop 40 7 (qs bx (sh40_7 (I p) (P0 bx) (I (natR (insN n p)).length) (I (natR (outsN n p)).length) (I el) (I ot) (.dat (mkD 1 (natR (outsN n p)))) (I (natR (outsN n p)).length) (I i)) [Nb N F])) =
   some (.loop (.exit 0) (qs bx (se40_7 (I p) (P0 bx) (I (natR (insN n p)).length) (I (natR (outsN n p)).length) (I ((el + (os.filter (elsN n)).length : Nat) : Int)) (I ((ot + (os.filter fun f => kindN n (toN n f) != 8).length : Nat) : Int))) [Nb N F])) := by
  intro os
  induction os with
  | nil =>
   intro i el ot hd _ _
   rw [List.filter_nil,List.length_nil,Nat.add_zero,List.filter_nil,List.length_nil,Nat.add_zero]
   exact es (rthree_end o1 o2 (mkD_one _ _) (by rw [hXl]; exact drop_nil hd))
  | cons o os ih =>
   intro i el ot hd hel hot
   obtain ⟨hget,hd',hlt⟩ := drop_cons hd
   have hol2 : o < n.flows.length := outs_lt (mog hget)
   obtain ⟨row,hfrow,_,_,op,m,K,rfl,hT⟩ := hfr.get hol2
   have hends := hE n.flows[o] (List.getElem_mem hol2)
   obtain ⟨q,hq⟩ : ∃ q : Nat,n.flows[o].to = q := ⟨n.flows[o].to.toNat,by omega⟩
   have hql : q < n.nodes.length := by omega
   obtain ⟨row,hnrow,_,_,op3,m3,K3,rfl,hT3⟩ := hnr.get hql
   rw [hq] at hfrow
   have hXget : (natR (outsN n p))[i]? = some [dI (o : Int)] := by simp [natR,hget]
   have hr := rthree_round (bx := bx) (p := p) (irs := natR (insN n p)) (el := (el : Int)) (ot := (ot : Int)) hN hF hX hXget hfrow hnrow (by rw [hXl]; exact hlt) (by rw [hXl]; omega) (wrap_lo (by omega) (by omega)) (wrap_lo (by omega) (by omega))
   have hk8 : (n.nodes[q].k != 8) = (kindN n (toN n o) != 8) := by rw [to_at hol2,hq,kind_at hql]
   have hel' : (if n.flows[o].els = true then (el : Int) + 1 else el) = ((if elsN n o = true then el + 1 else el : Nat) : Int) := by
    rw [els_at hol2]; split <;> simp
   have hot' : (if (n.nodes[q].k != 8) = true then (ot : Int) + 1 else ot) = ((if (kindN n (toN n o) != 8) = true then ot + 1 else ot : Nat) : Int) := by
    rw [hk8]; split <;> simp
   rw [hel',hot'] at hr
   have e1 : el + ((o :: os).filter (elsN n)).length = (if elsN n o = true then el + 1 else el) + (os.filter (elsN n)).length := by
    rw [List.filter_cons]; split <;> simp <;> omega
   have e2 : ot + ((o :: os).filter fun f => kindN n (toN n f) != 8).length = (if (kindN n (toN n o) != 8) = true then ot + 1 else ot) + (os.filter fun f => kindN n (toN n f) != 8).length := by
    rw [List.filter_cons]; split <;> simp <;> omega
   rw [e1,e2]
   exact es (hr.trans (ih (i + 1) (if elsN n o = true then el + 1 else el) (if (kindN n (toN n o) != 8) = true then ot + 1 else ot) hd' (by split <;> omega) (by split <;> omega)))
 have hl0 := loop (outsN n p) 0 0 0 rfl (Nat.le_refl _) (Nat.le_refl _)
 have hk : kindN n p = n.nodes[p].k := kind_at hp
 have hY := mkD_is 1 (natR (insN n p))
 have hYl : (natR (insN n p)).length = (insN n p).length := natR_len _
 have g0 : ∀ m : Nat,((m : Int) == 0) = (m == 0) := fun m => beq_nat m 0
 have g1 : ∀ m : Nat,((m : Int) == 1) = (m == 1) := fun m => beq_nat m 1
 have gg : ∀ m : Nat,decide ((m : Int) >= 2) = decide (1 < m) := fun m => decide_eq_decide.2 (by omega)
 have ga : (((outsN n p).filter fun f => kindN n (toN n f) != 8).length == 0) = (outsN n p).all fun f => kindN n (toN n f) == 8 := by
  rw [Bool.eq_iff_iff,beq_iff_eq,List.all_eq_true,List.length_eq_zero_iff,List.filter_eq_nil_iff]
  exact forall_congr' fun f => forall_congr' fun _ => by simp
 rw [linkedN]
 simp only [hk]
 generalize n.nodes[p].k = k at hrow
 simp only [Nat.zero_add] at hl0
 by_cases k1 : k = 1
 ·subst k1
  rw [if_pos rfl,es (rthree_1 hN o2 hX hY hrow hO hI hl0),hXl,hYl,g0,g1]
 rw [if_neg k1]
 by_cases k2 : k = 2
 ·subst k2
  rw [if_pos rfl,es (rthree_2 hN o2 hX hY hrow hO hI hl0),hXl,hYl,g0,g1]
 rw [if_neg k2]
 by_cases k7 : k = 7
 ·subst k7
  rw [if_pos rfl,es (rthree_7 hN o2 hX hY hrow hO hI hl0),hXl,hYl,gg,g1,g0,ga]
 rw [if_neg k7]
 by_cases k5 : k = 5
 ·subst k5
  rw [if_pos rfl,es (rthree_5 hN o2 hX hY hrow hO hI hl0),hXl,hYl,gg,gg,g1,g1,g1,<- Bool.and_assoc]
 rw [if_neg k5]
 by_cases k6 : k = 6
 ·subst k6
  rw [if_pos rfl,es (rthree_6 hN o2 hX hY hrow hO hI hl0),hXl,hYl,gg,gg,g1,g1]
 rw [if_neg k6,es (rthree_o (by simpa using k1) (by simpa using k2) (by simpa using k5) (by simpa using k6) (by simpa using k7) hN o2 hX hY hrow hO hI hl0),hXl,hYl,g1,g1]
theorem rep_set (m p : Nat) : (List.replicate m [D.lit (.bool false)]).set p [.lit (.bool true)] = rboolR ((List.replicate m false).set p true) := by
 rw [<- rbool_set]; congr 1; simp [rboolR]
theorem rreach_ev {n : Nt} {N F : D} (h : IsN n N F) (hsz : n.nodes.length <= 1000000) (hE : Ends n) {p : Nat} (hp : p < n.nodes.length) (bx : List Box) :
  ev cfg (.call 41 [Nq N F,I p] bx) = Rq (.own true 1 (rboolR (passes n.flows n.nodes.length ((List.replicate n.nodes.length false).set p true)))) := by
 obtain ⟨o1,o2⟩ := isN_one h
 obtain ⟨nr,fr,hN,hnr,_,hF,hfr,hfm⟩ := h
 have hlen : nr.length = n.nodes.length := hnr.1
 have hflen : fr.length = n.flows.length := hfr.1
 have inner : ∀ (fs : List Fl) (i : Nat) (m l : Nat) (o : List Bool),n.flows.drop i = fs -> o.length = n.nodes.length →
   ev cfg (.loop 41 6 (qs bx (sh41_6 (P0 bx) (.own true 1 (rboolR o)) (I m) (I l) (.dat F) (I fr.length) (I i)) [Nb N F])) =
    some (.loop (.exit 2) (qs bx (se41_6 (P0 bx) (.own true 1 (rboolR (pass fs o))) (I m) (I l)) [Nb N F])) := by
  intro fs
  induction fs with
  | nil =>
   intro i m l o hd ho
   exact es (rreach_inend o2 o1 (by rw [hflen]; exact drop_nil hd))
  | cons f fs ih =>
   intro i m l o hd ho
   obtain ⟨hget,hd',hlt⟩ := drop_cons hd
   obtain ⟨row,hrow,_,_,op,mm,K,rfl,hT⟩ := hfr.2 i f hget
   have hends := hE f (mog hget)
   obtain ⟨p,hp⟩ : ∃ p : Nat,f.fr = p := ⟨f.fr.toNat,by omega⟩
   obtain ⟨q,hq⟩ : ∃ q : Nat,f.to = q := ⟨f.to.toNat,by omega⟩
   have hpl : p < o.length := by omega
   have hql : q < o.length := by omega
   rw [hp,hq] at hrow
   have hr := rreach_in (bx := bx) (m := m) (l := l) hF o1 hrow (by rw [hflen]; exact hlt) (by rw [hflen]; omega) (isT_one hT) (gge hpl) hql
   have e : (if o[p] = true then o.set q true else o) = passF o f := by
    rw [passF,hp,hq,tnc,tnc,gge hpl]
    cases o[p] <;> simp
   rw [e] at hr
   have := ih (i + 1) m l (passF o f) hd' (by rw [passF_len]; exact ho)
   exact es (hr.trans this)
 have outer : ∀ (k l : Nat) (o : List Bool),l + k = n.nodes.length -> o.length = n.nodes.length →
   ev cfg (.loop 41 4 (qs bx (sh41_4 (P0 bx) (.own true 1 (rboolR o)) (I nr.length) (I l)) [Nb N F])) =
    some (.loop (.exit 0) (qs bx (se41_4 (.own true 1 (rboolR (passes n.flows k o)))) [Nb N F])) := by
  intro k
  induction k with
  | zero =>
   intro l o hk ho
   exact es (rreach_outend o2 o1 (by omega))
  | succ k ih =>
   intro l o hk ho
   have hr := rreach_out (bx := bx) (m := nr.length) (l := l) (o := o) hF o1 (by omega) (by omega) (inner n.flows 0 nr.length l o rfl ho)
   have := ih (l + 1) (pass n.flows o) (by omega) (by rw [pass_len]; exact ho)
   exact es (hr.trans this)
 have hlo := outer n.nodes.length 0 ((List.replicate n.nodes.length false).set p true) (by omega) (by simp)
 refine es (rreach_f o2 hN (by omega) (by omega) (by rw [List.getElem?_replicate,if_pos (by omega)]) (by rw [hlen]; exact rep_set _ _) hlo)
theorem thirdW_ref {n : Nt} {i : Nat} (hi : i < n.nodes.length) : (!linkedN n i || ((n.nodes[i].k == 1 && decide ((i : Int) > startN n)) || (n.nodes[i].k == 2 && decide ((i : Int) > endN n)))) = thirdW n i := by
 rw [thirdW,kind_at hi]
 have go : ∀ k : Int,(n.nodes[i].k == k && decide ((i : Int) > firstK k 0 n.nodes)) = (n.nodes[i].k == k && (i : Int) != firstK k 0 n.nodes) := fun k => by
  by_cases hk : n.nodes[i].k = k
  ·have := firstK_le k n.nodes 0 i n.nodes[i] (gge hi) hk (by omega)
   rw [show (n.nodes[i].k == k) = true by simpa using hk,Bool.true_and,Bool.true_and,Bool.eq_iff_iff,dqE,bne_iff_ne]
   omega
  ·rw [show (n.nodes[i].k == k) = false by simpa using hk,Bool.false_and,Bool.false_and]
 rw [startN,endN,go 1,go 2]
theorem rncheck_ev {n : Nt} {N F : D} (h : IsN n N F) (hfl : n.flows.length <= 1000) (hnd : n.nodes.length <= 1000) (hz : ∀ t ∈ termsN n,sizeT t <= 1000000) :
  ∃ r q : Int,(r = 0 ↔ OkN n) /\ Cq 18 [Nq N F] (.agg [I r,I q]) := by
 obtain ⟨o1,o2⟩ := isN_one h
 have h0 := h
 obtain ⟨nr,fr,hN,hnr,_,hF,hfr,_⟩ := h
 have hlen : nr.length = n.nodes.length := hnr.1
 have hflen : fr.length = n.flows.length := hfr.1
 by_cases hb : (decide ((nr.length : Int) > 24) || decide ((fr.length : Int) > 40)) = true
 ·refine ⟨1,0,⟨fun e => (by cases e),fun e => ?_⟩,fun bx => es (rcheck_big hN hF hb)⟩
  simp only [Bool.or_eq_true,dqE] at hb
  obtain ⟨e1,e2,_⟩ := e
  omega
 have hb' := hb
 simp only [Bool.not_eq_true,Bool.or_eq_false_iff] at hb'
 obtain ⟨c1,c2⟩ := hb'
 have hn24 : n.nodes.length <= 24 /\ n.flows.length <= 40 := by
  simp only [decide_eq_false_iff_not] at c1 c2; omega
 have loop4 : ∀ (xs : List Nd) (i : Nat),n.nodes.drop i = xs -> (∃ q : Int,¬ (∀ x ∈ xs,rightN ofT x = true) /\ ∀ bx : List Box,ev cfg (.loop 18 4 (qs bx (sh18_4 (P0 bx) (P1 bx) (.dat N) (I nr.length) (I i)) [Nb N F,[I 0,I 0]])) = some (.loop .ret (qs bx (se18_4 (P0 bx) (P1 bx)) [Nb N F,[I 1,I q]]))) ∨
   ((∀ x ∈ xs,rightN ofT x = true) /\ ∀ bx : List Box,ev cfg (.loop 18 4 (qs bx (sh18_4 (P0 bx) (P1 bx) (.dat N) (I nr.length) (I i)) [Nb N F,[I 0,I 0]])) = some (.loop (.exit 0) (qs bx (se18_4 (P0 bx) (P1 bx)) [Nb N F,[I 0,I 0]]))) := by
  intro xs
  induction xs with
  | nil => exact fun i hd => .inr ⟨(fun x hx => by cases hx),fun bx => es (rc4e o1 o2 (by rw [hlen]; exact drop_nil hd))⟩
  | cons x xs ih =>
   intro i hd
   obtain ⟨hget,hd',hlt⟩ := drop_cons hd
   obtain ⟨row,hrow,_,_,op,m,K,rfl,hT⟩ := hnr.2 i x hget
   have hm : x.t ∈ termsN n := List.mem_append_left _ (List.mem_map.2 ⟨_,mog hget,rfl⟩)
   have hr := fun bx : List Box => rc4 (bx := bx) hN o2 hrow (by rw [hlen]; exact hlt) (by omega) (isT_one hT) fun bx => rone_ev x hT (hz _ hm) bx
   cases hv : rightN ofT x with
   | false =>
    simp only [hv,Bool.not_false,if_true] at hr
    exact .inl ⟨i,(fun hall => by have := hall x (mcs ..); rw [hv] at this; cases this),fun bx => es (hr bx)⟩
   | true =>
    simp only [hv,Bool.not_true,Bool.false_eq_true,if_false] at hr
    rcases ih (i + 1) hd' with ⟨q,h1,h2⟩ | ⟨h1,h2⟩
    ·exact .inl ⟨q,fun hall => h1 fun y hy => hall y (mcm _ hy),fun bx => es ((hr bx).trans (h2 bx))⟩
    ·exact .inr ⟨fun y hy => by rcases List.mem_cons.1 hy with rfl | hy; exact hv; exact h1 y hy,fun bx => es ((hr bx).trans (h2 bx))⟩
 rcases loop4 n.nodes 0 rfl with ⟨q,k1,hl4⟩ | ⟨k1,hl4⟩
 ·exact ⟨1,q,⟨fun e => (by cases e),fun e => absurd e.2.2.1 k1⟩,fun bx => es (rcheck_1 hN hF c1 c2 (hl4 bx))⟩
 have loop10 : ∀ (xs : List Fl) (i : Nat),n.flows.drop i = xs -> (∃ q : Int,¬ (∀ x ∈ xs,leadsN ofT n x = true) /\ ∀ bx : List Box,ev cfg (.loop 18 10 (qs bx (sh18_10 (P0 bx) (P1 bx) (.dat F) (I fr.length) (I i)) [Nb N F,[I 0,I 0]])) = some (.loop .ret (qs bx (se18_10 (P0 bx) (P1 bx)) [Nb N F,[I 2,I q]]))) ∨
   ((∀ x ∈ xs,leadsN ofT n x = true) /\ ∀ bx : List Box,ev cfg (.loop 18 10 (qs bx (sh18_10 (P0 bx) (P1 bx) (.dat F) (I fr.length) (I i)) [Nb N F,[I 0,I 0]])) = some (.loop (.exit 2) (qs bx (se18_10 (P0 bx) (P1 bx)) [Nb N F,[I 0,I 0]]))) := by
  intro xs
  induction xs with
  | nil => exact fun i hd => .inr ⟨(fun x hx => by cases hx),fun bx => es (rc10e o1 o2 (by rw [hflen]; exact drop_nil hd))⟩
  | cons x xs ih =>
   intro i hd
   obtain ⟨hget,hd',hlt⟩ := drop_cons hd
   obtain ⟨row,hrow,_,_,op,m,K,rfl,hT⟩ := hfr.2 i x hget
   have hm : x.c ∈ termsN n := List.mem_append_right _ (List.mem_map.2 ⟨_,mog hget,rfl⟩)
   have hr := fun bx : List Box => rc10 (bx := bx) o1 hF hrow (by rw [hflen]; exact hlt) (by omega) (isT_one hT) fun bx => rtwo_ev h0 (by omega) x hT (hz _ hm) bx
   cases hv : leadsN ofT n x with
   | false =>
    simp only [hv,Bool.not_false,if_true] at hr
    exact .inl ⟨i,(fun hall => by have := hall x (mcs ..); rw [hv] at this; cases this),fun bx => es (hr bx)⟩
   | true =>
    simp only [hv,Bool.not_true,Bool.false_eq_true,if_false] at hr
    rcases ih (i + 1) hd' with ⟨q,h1,h2⟩ | ⟨h1,h2⟩
    ·exact .inl ⟨q,fun hall => h1 fun y hy => hall y (mcm _ hy),fun bx => es ((hr bx).trans (h2 bx))⟩
    ·exact .inr ⟨fun y hy => by rcases List.mem_cons.1 hy with rfl | hy; exact hv; exact h1 y hy,fun bx => es ((hr bx).trans (h2 bx))⟩
 rcases loop10 n.flows 0 rfl with ⟨q,k2,hl10⟩ | ⟨k2,hl10⟩
 ·exact ⟨2,q,⟨fun e => (by cases e),fun e => absurd e.2.2.2.1 k2⟩,fun bx => es (rcheck_2 hN hF c1 c2 (hl4 bx) (hl10 bx))⟩
 have hEnds := leads_ends k2
 have hs := fun bx : List Box => rfirst_ev h0 1 bx
 have hzz := fun bx : List Box => rfirst_ev h0 2 bx
 have loop18 : ∀ (k i : Nat),i + k = n.nodes.length -> (∃ q : Int,¬ (∀ j,i <= j -> j < n.nodes.length -> thirdW n j = false) /\ ∀ bx : List Box,ev cfg (.loop 18 18 (qs bx (sh18_18 (P0 bx) (P1 bx) (I (startN n)) (I (endN n)) (.dat N) (I nr.length) (I i)) [Nb N F,[I 0,I 0]])) = some (.loop .ret (qs bx (se18_18 (P0 bx) (P1 bx) (I (startN n)) (I (endN n))) [Nb N F,[I 3,I q]]))) ∨
   ((∀ j,i <= j -> j < n.nodes.length -> thirdW n j = false) /\ ∀ bx : List Box,ev cfg (.loop 18 18 (qs bx (sh18_18 (P0 bx) (P1 bx) (I (startN n)) (I (endN n)) (.dat N) (I nr.length) (I i)) [Nb N F,[I 0,I 0]])) = some (.loop (.exit 4) (qs bx (se18_18 (P0 bx) (P1 bx) (I (startN n)) (I (endN n))) [Nb N F,[I 0,I 0]]))) := by
  intro k
  induction k with
  | zero => exact fun i hk => .inr ⟨fun j h1 h2 => by omega,fun bx => es (rc18e o1 o2 (by omega))⟩
  | succ k ih =>
   intro i hk
   have hi : i < n.nodes.length := by omega
   obtain ⟨row,hrow,_,_,op,m,K,rfl,hT⟩ := hnr.get hi
   have hr := fun bx : List Box => rc18 (bx := bx) (s := startN n) (z := endN n) hN o2 hrow (by omega) (by omega) (isT_one hT) fun bx => rthree_ev h0 (by omega) hEnds hi bx
   rw [thirdW_ref hi] at hr
   cases hv : thirdW n i with
   | true =>
    simp only [hv,if_true] at hr
    exact .inl ⟨i,(fun hall => by have := hall i (Nat.le_refl _) hi; rw [hv] at this; cases this),fun bx => es (hr bx)⟩
   | false =>
    simp only [hv,Bool.false_eq_true,if_false] at hr
    rcases ih (i + 1) (by omega) with ⟨q,h1,h2⟩ | ⟨h1,h2⟩
    ·exact .inl ⟨q,fun hall => h1 fun j hj hj2 => hall j (by omega) hj2,fun bx => es ((hr bx).trans (h2 bx))⟩
    ·refine .inr ⟨fun j hj hj2 => ?_,fun bx => es ((hr bx).trans (h2 bx))⟩
     by_cases e : j = i
     ·subst e; exact hv
     ·exact h1 j (by omega) hj2
 rcases loop18 n.nodes.length 0 (by omega) with ⟨q,k3,hl18⟩ | ⟨k3,hl18⟩
 ·exact ⟨3,q,⟨fun e => (by cases e),fun e => absurd (fun j _ h2 => e.2.2.2.2.1 j h2) k3⟩,fun bx => es (rcheck_3 hN hF c1 c2 (hl4 bx) (hl10 bx) hs hzz (hl18 bx))⟩
 by_cases hsz : (decide (startN n < 0) || decide (endN n < 0)) = true
 ·refine ⟨3,nr.length,⟨fun e => (by cases e),fun e => ?_⟩,fun bx => es (rcheck_3b hN hF c1 c2 (hl4 bx) (hl10 bx) hs hzz (hl18 bx) hsz)⟩
  simp only [Bool.or_eq_true,dqE] at hsz
  have := e.2.2.2.2.2.1
  have := e.2.2.2.2.2.2.1
  omega
 have hsz' := hsz
 simp only [Bool.not_eq_true,Bool.or_eq_false_iff] at hsz'
 obtain ⟨d1,d2⟩ := hsz'
 have hs0 : 0 <= startN n := by simpa using d1
 have he0 : 0 <= endN n := by simpa using d2
 obtain ⟨sp,hsp⟩ : ∃ sp : Nat,startN n = sp := ⟨(startN n).toNat,by omega⟩
 obtain ⟨zp,hzp⟩ : ∃ zp : Nat,endN n = zp := ⟨(endN n).toNat,by omega⟩
 have hsl : sp < n.nodes.length := by have := firstK_ge 1 n.nodes 0; rw [startN] at hsp hs0; omega
 have hzl : zp < n.nodes.length := by have := firstK_ge 2 n.nodes 0; rw [endN] at hzp he0; omega
 have hrs := fun bx : List Box => rreach_ev h0 (by omega) hEnds hsl bx
 have plen : ∀ (k : Nat) (o : List Bool),(passes n.flows k o).length = o.length := by
  intro k
  induction k with
  | zero => intro o; rfl
  | succ k ih => intro o; rw [passes,ih,pass_len]
 have rlen : ∀ p,(passes n.flows n.nodes.length ((List.replicate n.nodes.length false).set p true)).length = n.nodes.length := fun p => by rw [plen]; simp
 have rch : ∀ {p : Nat},p < n.nodes.length -> ∀ i : Nat,(hi : i < n.nodes.length) -> ((passes n.flows n.nodes.length ((List.replicate n.nodes.length false).set p true))[i]'(by rw [rlen]; exact hi) = true ↔ Rch (Edge n) p i) := fun {p} hp i hi => by
  rw [<- reach_iff p hp hEnds i,gge (by rw [rlen]; exact hi)]
  simp
 have flip : ∀ {a b : Int},Rch (EdgeB n true) a b ↔ Rch (Edge n) b a := fun {a b} =>
  ⟨fun hh => Rch.flip (e := fun x y => Edge n y x) hh,fun hh => Rch.flip hh⟩
 have good : ∀ i : Nat,i < n.nodes.length -> ((Rch (EdgeB n false) (startN n) i /\ Rch (EdgeB n true) (endN n) i) ↔ (Rch (Edge n) sp i /\ Rch (Edge n) i zp)) := fun i hi => by
  rw [flip,hsp,hzp]; exact Iff.rfl
 have loop27 : ∀ (k i : Nat),i + k = n.nodes.length -> (∃ q : Int,¬ (∀ j : Nat,i <= j -> j < n.nodes.length -> Rch (Edge n) sp j /\ Rch (Edge n) j zp) /\ ∀ bx : List Box,ev cfg (.loop 18 27 (qs bx (sh18_27 (P0 bx) (P1 bx) (I (endN n)) (.own true 1 (rboolR (passes n.flows n.nodes.length ((List.replicate n.nodes.length false).set sp true)))) (I nr.length) (I i)) [Nb N F,[I 0,I 0]])) = some (.loop .ret (qs bx (se18_27 (P1 bx)) [Nb N F,[I 4,I q]]))) ∨
   ((∀ j : Nat,i <= j -> j < n.nodes.length -> Rch (Edge n) sp j /\ Rch (Edge n) j zp) /\ ∀ bx : List Box,ev cfg (.loop 18 27 (qs bx (sh18_27 (P0 bx) (P1 bx) (I (endN n)) (.own true 1 (rboolR (passes n.flows n.nodes.length ((List.replicate n.nodes.length false).set sp true)))) (I nr.length) (I i)) [Nb N F,[I 0,I 0]])) = some (.loop (.exit 6) (qs bx (se18_27 (P1 bx)) [Nb N F,[I 0,I 0]]))) := by
  intro k
  induction k with
  | zero => exact fun i hk => .inr ⟨fun j h1 h2 => by omega,fun bx => es (rc27e o1 o2 (by omega))⟩
  | succ k ih =>
   intro i hk
   have hi : i < n.nodes.length := by omega
   have hr := fun bx : List Box => rc27 (bx := bx) (nr := nr) (z := endN n) (p := zp) o1 o2 (by omega) (by omega) hzp (gge (by rw [rlen sp]; exact hi)) (gge (by rw [rlen i]; exact hzl)) fun bx => rreach_ev h0 (by omega) hEnds hi bx
   have q1 := rch hsl i hi
   have q2 := rch hi zp hzl
   by_cases hgood : Rch (Edge n) sp i /\ Rch (Edge n) i zp
   ·rw [q1.2 hgood.1,q2.2 hgood.2] at hr
    simp only [Bool.not_true,Bool.or_self,Bool.false_eq_true,if_false] at hr
    rcases ih (i + 1) (by omega) with ⟨q,h1,h2⟩ | ⟨h1,h2⟩
    ·exact .inl ⟨q,fun hall => h1 fun j hj hj2 => hall j (by omega) hj2,fun bx => es ((hr bx).trans (h2 bx))⟩
    ·refine .inr ⟨fun j hj hj2 => ?_,fun bx => es ((hr bx).trans (h2 bx))⟩
     by_cases e : j = i
     ·subst e; exact hgood
     ·exact h1 j (by omega) hj2
   ·refine .inl ⟨i,fun hall => hgood (hall i (Nat.le_refl _) hi),fun bx => ?_⟩
    have hb : (!(passes n.flows n.nodes.length ((List.replicate n.nodes.length false).set sp true))[i]'(by rw [rlen]; exact hi) || !(passes n.flows n.nodes.length ((List.replicate n.nodes.length false).set i true))[zp]'(by rw [rlen]; exact hzl)) = true := by
     rw [<- q1,<- q2] at hgood
     revert hgood
     generalize (passes n.flows n.nodes.length ((List.replicate n.nodes.length false).set sp true))[i]'(by rw [rlen]; exact hi) = x
     generalize (passes n.flows n.nodes.length ((List.replicate n.nodes.length false).set i true))[zp]'(by rw [rlen]; exact hzl) = y
     cases x <;> cases y <;> simp
    have := hr bx
    rw [if_pos hb] at this
    exact es this
 have hrs' : Cq 41 [Nq N F,I (startN n)] (.own true 1 (rboolR (passes n.flows n.nodes.length ((List.replicate n.nodes.length false).set sp true)))) := fun bx => by rw [hsp]; exact hrs bx
 rcases loop27 n.nodes.length 0 (by omega) with ⟨q,k4,hl27⟩ | ⟨k4,hl27⟩
 ·refine ⟨4,q,⟨fun e => (by cases e),fun e => absurd (fun j _ h2 => (good j h2).1 (e.2.2.2.2.2.2.2 j h2)) k4⟩,fun bx => es (rcheck_4 hN hF c1 c2 (hl4 bx) (hl10 bx) hs hzz (hl18 bx) d1 d2 hrs' (hl27 bx))⟩
 ·exact ⟨0,0,⟨fun _ => ⟨hn24.1,hn24.2,k1,k2,fun j hj => k3 j (Nat.zero_le _) hj,hs0,he0,fun j hj => (good j hj).2 (k4 j (Nat.zero_le _) hj)⟩,fun _ => rfl⟩,fun bx => es (rcheck_0 hN hF c1 c2 (hl4 bx) (hl10 bx) hs hzz (hl18 bx) d1 d2 hrs' (hl27 bx))⟩
def hereN (k nd q : Int) : Nat := if (((k == 2) || (decide (k >= 4) && decide (k <= 8))) && (nd == q)) = true then 1 else 0
theorem nodeL_cnt {n : Nt} {k nd q : Int} (h6 : k ≠ 6) : (nodeL n k nd).count q = hereN k nd q := by
 unfold nodeL hereN
 rw [if_neg h6]
 by_cases hk : k = 2 ∨ k = 4 ∨ k = 5 ∨ k = 7 ∨ k = 8
 ·rw [if_pos hk]
  have : ((k == 2) || (decide (k >= 4) && decide (k <= 8))) = true := by
   simp only [Bool.or_eq_true,Bool.and_eq_true,beq_iff_eq,dqE]; omega
  rw [this,Bool.true_and]
  by_cases hq : nd = q
  ·subst hq; simp
  ·simp [hq]
 ·rw [if_neg hk]
  have : ((k == 2) || (decide (k >= 4) && decide (k <= 8))) = false := by
   rw [Bool.eq_false_iff]
   simp only [ne_eq,Bool.or_eq_true,Bool.and_eq_true,beq_iff_eq,dqE]; omega
  rw [this,Bool.false_and]; rfl
theorem nodeL_cnt6 {n : Nt} {nd q : Int} : (nodeL n 6 nd).count q = ((outsN n nd).map (toN n)).count q + (if (nd == q) = true then 1 else 0) := by
 unfold nodeL
 rw [if_pos rfl,List.count_append]
 by_cases hq : nd = q
 ·subst hq; simp
 ·simp [hq]
theorem cnt_le (l : List Int) (q : Int) : l.count q <= l.length := List.count_le_length
theorem times_outs {n : Nt} {N F K L : D} (h : IsN n N F) (hfl : n.flows.length <= 1000) {k nd a q : Int} (oK : Oq K) (oL : Oq L) (bx : List Box) : ∀ (os : List Nat) (i t : Nat),(outsN n nd).drop i = os -> t + os.length <= 1000000 →
  ev cfg (.loop 88 7 (qs bx (sh88_7 (I q) (P0 bx) (P1 bx) (I t) (.dat (mkD 1 (natR (outsN n nd)))) (I (natR (outsN n nd)).length) (I i)) [Nb N F,Wx k nd a K L])) =
   some (.loop (.exit 0) (qs bx (se88_7 (I q) (P0 bx) (P1 bx) (I ((t + (os.map (toN n)).count q : Nat) : Int))) [Nb N F,Wx k nd a K L]))
 | [],i,t,hd,_ => by
  obtain ⟨oN,oF⟩ := isN_one h
  exact es (times_oend oF oN oK oL (mkD_one 1 _) (by rw [natR_len]; exact drop_nil hd))
 | j :: os,i,t,hd,ht => by
  obtain ⟨oN,oF⟩ := isN_one h
  have hh := h
  obtain ⟨nr,fr,hN,hnr,_,hF,hfr,_⟩ := h
  obtain ⟨hget,hd',hlt⟩ := drop_cons hd
  have hj : j < n.flows.length := outs_lt (mog hget)
  obtain ⟨row,hrow,_,_,op,m,K2,rfl,hT⟩ := hfr.get hj
  have hol : (outsN n nd).length <= 1000 := Nat.le_trans (idxs_len _ _ _) hfl
  have hr := times_o (bx := bx) (k := k) (nd := nd) (a := a) (q := q) (t := (t : Int)) (i := i) (p := j) (ors := natR (outsN n nd)) hF oN oK oL (by simp [natR,hget]) (mkD_is 1 _) hrow (by rw [natR_len]; exact hlt) (by rw [natR_len]; omega) (by omega) (by simp at ht; omega)
  have htj : toN n j = n.flows[j].to := to_at hj
  have h2 := times_outs hh hfl (k := k) (a := a) (q := q) oK oL bx os (i + 1) (if (toN n j == q) = true then t + 1 else t) hd' (by simp at ht; split <;> omega)
  refine (es (hr.trans ?_))
  have e : (if (n.flows[j].to == q) = true then (t : Int) + 1 else t) = ((if (toN n j == q) = true then t + 1 else t : Nat) : Int) := by rw [htj]; split <;> simp
  rw [e,h2,List.map_cons,List.count_cons]
  have e2 : (if (toN n j == q) = true then t + 1 else t) + (os.map (toN n)).count q = t + ((os.map (toN n)).count q + if (toN n j == q) = true then 1 else 0) := by split <;> omega
  rw [e2]
theorem times_ev {n : Nt} {N F : D} (h : IsN n N F) (hfl : n.flows.length <= 1000) (q : Int) : ∀ (b : Blk) {k nd a : Int} {K L : D},IsB b k nd a K L -> sizeB b <= 1000 -> ∀ bx : List Box,
  ev cfg (.call 88 [Nq N F,Wq k nd a K L,I q] bx) = Rq (I (((nodesB n b).count q : Nat) : Int))
 | .mk k0 nd0 a0 ks ls,k,nd,a,K,L,hB,hz,bx => by
  obtain ⟨oN,oF⟩ := isN_one h
  have hlen := nodesB_len hfl (.mk k0 nd0 a0 ks ls)
  obtain ⟨oK,oL⟩ := isB_one hB
  rw [IsB] at hB
  obtain ⟨rfl,rfl,rfl,_,_,_,rows,hK,hks,hmax,hL,_,_⟩ := hB
  rw [nodesB,List.count_append] 
  rw [nodesB,List.length_append] at hlen
  rw [sizeB] at hz hlen
  have hcl := cnt_le (nodeL n k nd) q
  have hkl := loop ks (k := k) (nd := nd) (a := a) (L := L) (i := 0) ((nodeL n k nd).count q) hK rfl hks (by rw [isBs_len hks]; exact hmax) (by omega) oL (by omega) bx
  by_cases h6 : k = 6
  ·subst h6
   have ho := times_outs h hfl (k := 6) (nd := nd) (a := a) (q := q) oK oL bx (outsN n nd) 0 (if (nd == q) = true then 1 else 0) rfl (by have := idxs_len (fun f : Fl => f.fr == nd) n.flows 0; simp only [outsN]; split <;> omega)
   have e : (((if (nd == q) = true then 1 else 0 : Nat) : Nat) : Int) = (if (nd == q) = true then 1 else 0 : Int) := by split <;> rfl
   rw [e] at ho
   rw [nodeL_cnt6,Nat.add_comm ((outsN n nd).map (toN n) |>.count q)] at hkl ⊢
   exact es (times_6 oF oN hK oL (mkD_is 1 _) (fun bx => routs_ev h (by omega) nd bx) ho hkl)
  ·rw [nodeL_cnt h6] at hkl ⊢
   have e : ((hereN k nd q : Nat) : Int) = (if (((k == 2) || (decide (k >= 4) && decide (k <= 8))) && (nd == q)) = true then 1 else 0 : Int) := by unfold hereN; split <;> rfl
   rw [e] at hkl
   exact es (times_f oF oN hK oL (by simpa using h6) hkl)
where
 loop : ∀ (bs : List Blk) {rows rs : List (List D)} {K L : D} {k nd a : Int} {i : Nat} (t : Nat),IsS 5 rows K -> rows.drop i = rs -> IsB.IsBs bs rs -> rows.length < 9223372036854775808 -> sizeB.go bs <= 1000 -> Oq L -> t + 1001 * sizeB.go bs <= 100000000 -> ∀ bx : List Box,
  ev cfg (.loop 88 13 (qs bx (sh88_13 (I q) (P0 bx) (I t) (.dat K) (I rows.length) (I i)) [Nb N F,Wx k nd a K L])) =
   some (.loop (.exit 2) (qs bx (se88_13 (I ((t + (nodesB.go n bs).count q : Nat) : Int))) [Nb N F,Wx k nd a K L]))
 | [],rows,rs,K,L,k,nd,a,i,t,hK,hr,hbs,hmax,hz,oL,ht,bx => by
  obtain ⟨oN,oF⟩ := isN_one h
  have oK : Oq K := by obtain ⟨_,_,_,h⟩ := hK; exact h
  rw [IsB.IsBs] at hbs
  subst hbs
  rw [nodesB.go]
  exact es (times_kend oF oN oK oL (drop_nil hr))
 | b :: bs,rows,rs,K,L,k,nd,a,i,t,hK,hr,hbs,hmax,hz,oL,ht,bx => by
  obtain ⟨oN,oF⟩ := isN_one h
  rw [IsB.IsBs] at hbs
  obtain ⟨k2,n2,a2,K2,L2,rest,rfl,hB,hrest⟩ := hbs
  obtain ⟨hget,hr',hlt⟩ := drop_cons hr
  rw [sizeB.go] at hz ht
  have p1 := sizeB_pos b
  have p2 := sizeB_pos.go bs
  have hl1 := nodesB_len hfl b
  have hc1 := cnt_le (nodesB n b) q
  rw [nodesB.go,List.count_append,<- Nat.add_assoc]
  have h2 := loop bs (k := k) (nd := nd) (a := a) (i := i + 1) (t + (nodesB n b).count q) hK hr' hrest hmax (by omega) oL (by omega) bx
  exact es ((times_k oF oN hK oL hget (isB_one hB).1 (isB_one hB).2 hlt hmax (times_ev h hfl q b hB (by omega)) (by omega) (by omega)).trans h2)
end Go.Proofs.YtifckjhggamefaaGreatDoor
