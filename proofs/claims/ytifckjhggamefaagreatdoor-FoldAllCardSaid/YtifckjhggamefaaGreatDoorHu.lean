/- What block.right, linked, splits and the searches answer. No condition. -/
import Derived.Test.YtifckjhggamefaaGreatDoorHt
import Derived.Test.YtifckjhggamefaaGreatDoorHm
import Derived.Test.YtifckjhggamefaaGreatDoorHi
import Derived.KernelRfl
set_option linter.unusedSimpArgs false
set_option linter.unusedVariables false
set_option linter.unusedSectionVars false
namespace Go.Proofs.YtifckjhggamefaaGreatDoor
open Go Go.Vx
set_option maxRecDepth 10000
set_option maxHeartbeats 1000000
theorem intHas_ev (xs : List Int) (X : D) (hX : IsS 1 (intR xs) X) (hlen : xs.length < 1000000) (x : Int) (bx : List Box) : ev cfg (.call 49 [.dat X,I x] bx) = Rq (B (xs.any fun y => x == y)) := by
 have oX : Oq X := by obtain ⟨_,_,_,h⟩ := hX; exact h
 have hl : (intR xs).length = xs.length := intR_len xs
 have loop : ∀ (ys : List Int) (i : Nat),xs.drop i = ys -> ∃ q : Option Nat,q.isSome = (ys.any fun y => x == y) /\ ev cfg (.loop 81 2 (q0 bx (sh81_2 (.dat X) (I x) (I (intR xs).length) (I i)))) = some (match q with
   | some j => .loop .ret (q0 bx (se81_2 (I j)))
   | none => .loop (.exit 0) (q0 bx (se81_2 .dead))) := by
  intro ys
  induction ys with
  | nil =>
   intro i hd
   exact ⟨none,rfl,es (intIdx_stop oX (by rw [hl]; exact drop_nil hd))⟩
  | cons y ys ih =>
   intro i hd
   obtain ⟨hget,hd',hlt⟩ := drop_cons hd
   have hr := intIdx_round (bx := bx) (x := x) (y := y) (i := i) hX (by simp [intR,hget]) (by rw [hl]; exact hlt) (by rw [hl]; omega)
   rw [List.any_cons]
   by_cases hx : (x == y) = true
   ·rw [if_pos hx] at hr
    exact ⟨some i,by rw [hx]; rfl,es hr⟩
   ·rw [if_neg hx] at hr
    obtain ⟨q,h1,h2⟩ := ih (i + 1) hd'
    rw [Bool.not_eq_true] at hx
    exact ⟨q,by rw [hx,Bool.false_or]; exact h1,es (hr.trans h2)⟩
 obtain ⟨q,h1,h2⟩ := loop xs 0 rfl
 have hc := es (intHas_call oX (es (intIdx_call hX h2)))
 rw [hc]
 cases q with
 | some j =>
  have e : (xs.any fun y => x == y) = true := h1.symm
  rw [e]
  have : decide (((j : Nat) : Int) >= 0) = true := dqt (by omega)
  simp only [this]
 | none =>
  have e : (xs.any fun y => x == y) = false := h1.symm
  rw [e]; rfl
theorem kids_ev {g : FuncId} {cap : List Nat} (p : Blk -> Bool) {ks : List Blk} {rows : List (List D)} {K : D} (hK : IsS 5 rows K) (hks : IsB.IsBs ks rows) (hmax : ks.length < 9223372036854775808) {bx : List Box} (hcap : (cap.all fun l => decide (l < bx.length)) = true)
  (hcall : ∀ b ∈ ks,∀ k n a K L,IsB b k n a K L -> ev cfg (.call g (Wq k n a K L :: cap.map fun l => .ptr l 0) bx) = Rq (B (p b))) :
  ev cfg (.call 74 [.dat K,.clo g cap] bx) = Rq (B (ks.any p)) := by
 have oK : Oq K := by obtain ⟨_,_,_,h⟩ := hK; exact h
 have hlen := isBs_len hks
 have loop : ∀ (bs : List Blk) (rs : List (List D)) (i : Nat),(∀ b ∈ bs,b ∈ ks) -> rows.drop i = rs -> IsB.IsBs bs rs -> ∃ q : Option Nat,q.isSome = bs.any p /\ ev cfg (.loop 122 2 (q0 bx (sh122_2 (.dat K) (.clo g cap) (I rows.length) (I i)))) = some (match q with
   | some j => .loop .ret (q0 bx (se122_2 (I j)))
   | none => .loop (.exit 0) (q0 bx (se122_2 .dead))) := by
  intro bs
  induction bs with
  | nil =>
   intro rs i hin hd hbs
   rw [IsB.IsBs] at hbs
   subst hbs
   exact ⟨none,rfl,es (kid_end hcap oK (drop_nil hd))⟩
  | cons b bs ih =>
   intro rs i hin hd hbs
   rw [IsB.IsBs] at hbs
   obtain ⟨k,n,a,K',L',rest,rfl,hB,hrest⟩ := hbs
   obtain ⟨hget,hd',hlt⟩ := drop_cons hd
   have hr := kid_round (bx := bx) (v := p b) hcap hK hget hlt (by rw [hlen]; exact hmax) (isB_one hB).1 (isB_one hB).2 (hcall b (hin b (mcs ..)) _ _ _ _ _ hB)
   rw [List.any_cons]
   by_cases hx : p b = true
   ·rw [if_pos hx] at hr
    exact ⟨some i,by rw [hx]; rfl,es hr⟩
   ·rw [if_neg hx] at hr
    obtain ⟨q,h1,h2⟩ := ih rest (i + 1) (fun c hc => hin c (mcm _ hc)) hd' hrest
    rw [Bool.not_eq_true] at hx
    exact ⟨q,by rw [hx,Bool.false_or]; exact h1,es (hr.trans h2)⟩
 obtain ⟨q,h1,h2⟩ := loop ks rows 0 (fun _ h => h) rfl hks
 have hc := es (some_kid hcap oK (es (kid_f hcap hK h2)))
 rw [hc]
 cases q with
 | some j =>
  have e : ks.any p = true := h1.symm
  rw [e]
  have : decide (((j : Nat) : Int) >= 0) = true := dqt (by omega)
  simp only [this]
 | none =>
  have e : ks.any p = false := h1.symm
  rw [e]; rfl
def splitN (n : Nt) (q kd m : Int) : Bool := inN n q && (kindN n q == kd && (decide (m > 1) && ((outsN n q).length : Int) == m))
theorem inN_rows {n : Nt} {nr : List (List D)} (h : nr.length = n.nodes.length) (q : Int) : (decide (q >= 0) && decide (q < (nr.length : Int))) = inN n q := by rw [h]; rfl
theorem inN_nat {n : Nt} {q : Int} (h : inN n q = true) : ∃ p : Nat,q = p /\ p < n.nodes.length := by
 simp only [inN,Bool.and_eq_true,dqE] at h
 exact ⟨q.toNat,by omega,by omega⟩
theorem splits_ev {n : Nt} {N F : D} (h : IsN n N F) (hsz : n.flows.length <= 1000000) (q kd m : Int) (bx : List Box) : ev cfg (.call 120 [Nq N F,I q,I kd,I m] bx) = Rq (B (splitN n q kd m)) := by
 have hh := h
 obtain ⟨oN,oF⟩ := isN_one h
 obtain ⟨nr,fr,hN,hnr,_⟩ := h
 cases hin : inN n q with
 | false => rw [es (splits_no hN oF ((inN_rows hnr.1 q).trans hin)),splitN,hin,Bool.false_and]
 | true =>
  obtain ⟨p,rfl,hp⟩ := inN_nat hin
  obtain ⟨row,hrow,_,_,op,k,K,rfl,hT⟩ := hnr.get hp
  rw [es (splits_go hN oF hrow (mkD_is _ _) fun bx => outs_ev hh hsz p bx),splitN,hin,Bool.true_and,kind_at hp,natR_len]
def badX (nk nf : Nat) (x : Int × Int × Int) : Bool := badLk nk nf x.1 x.2.1 x.2.2
def cntW (g : Int × Int × Int -> Int) (ls : List (Int × Int × Int)) : Nat := (ls.filter fun x => decide (g x < 0)).length
def linkedW (nk nf : Nat) (ls : List (Int × Int × Int)) : Bool := !ls.any (badX nk nf) && (((cntW (·.1) ls : Nat) : Int) == 1 && (((cntW (·.2.1) ls : Nat) : Int) == 1 && decide ((ls.length : Int) <= 40)))
theorem cnt_cons (g : Int × Int × Int -> Int) (x : Int × Int × Int) (ls : List (Int × Int × Int)) : ((cntW g (x :: ls) : Nat) : Int) = (if g x < 0 then 1 else 0) + (cntW g ls : Nat) := by
 unfold cntW
 rw [List.filter_cons]
 by_cases h : g x < 0
 ·simp [h]; omega
 ·simp [h]
theorem linked_evB {n : Nt} {N F : D} (h : IsN n N F) {ks : List Blk} {ls : List (Int × Int × Int)} {rows : List (List D)} {K L : D} (hK : IsS 5 rows K) (hks : IsB.IsBs ks rows) (hL : IsS 3 (ls.map lnkD) L) (hmax : ls.length < 1000000000) (k nd a : Int) (bx : List Box) :
  ev cfg (.call 121 [Nq N F,Wq k nd a K L] bx) = Rq (B (linkedW ks.length n.flows.length ls)) := by
 obtain ⟨oN,oF⟩ := isN_one h
 obtain ⟨nr,fr,hN,hnr,_,hF,hfr,_⟩ := h
 have oK : Oq K := by obtain ⟨_,_,_,h⟩ := hK; exact h
 have oL : Oq L := by obtain ⟨_,_,_,h⟩ := hL; exact h
 have hlen : (ls.map lnkD).length = ls.length := by simp
 have hkl := isBs_len hks
 have hfl := hfr.1
 have loop : ∀ (xs : List (Int × Int × Int)) (i : Nat) (ins outs : Int),ls.drop i = xs -> 0 <= ins -> ins <= i -> 0 <= outs -> outs <= i -> ∃ p q : Int,
   ev cfg (.loop 121 3 (qs bx (sh121_3 (P0 bx) (P1 bx) (I ins) (I outs) (.dat L) (I (ls.map lnkD).length) (I i)) [Nb N F,Wx k nd a K L])) =
    some (if xs.any (badX rows.length fr.length) = true then .loop .ret (qs bx (se121_3 (P1 bx) (B false) (I p) (I q)) [Nb N F,Wx k nd a K L])
    else .loop (.exit 0) (qs bx (se121_3 (P1 bx) .dead (I (ins + (cntW (·.1) xs : Nat))) (I (outs + (cntW (·.2.1) xs : Nat)))) [Nb N F,Wx k nd a K L])) := by
  intro xs
  induction xs with
  | nil =>
   intro i ins outs hd h1 h2 h3 h4
   refine ⟨0,0,?_⟩
   rw [if_neg (by simp)]
   have := es (blink_end (bx := bx) (k := k) (n := nd) (a := a) (ins := ins) (outs := outs) oN oF oK oL (m := (ls.map lnkD).length) (i := i) (by rw [hlen]; exact drop_nil hd))
   rw [this]
   simp [cntW]
  | cons x xs ih =>
   intro i ins outs hd h1 h2 h3 h4
   obtain ⟨hget,hd',hlt⟩ := drop_cons hd
   have hg : (ls.map lnkD)[i]? = some [dI x.1,dI x.2.1,dI x.2.2] := by simp [hget,lnkD]
   rw [List.any_cons]
   cases hb : badX rows.length fr.length x with
   | true =>
    refine ⟨ins,outs,?_⟩
    rw [Bool.true_or,if_pos rfl]
    exact es (blink_bad oN hF hK hL hg (by rw [hlen]; exact hlt) hb)
   | false =>
    have hb' : badLk rows.length fr.length x.1 x.2.1 x.2.2 = false := hb
    simp only [badLk,Bool.or_eq_false_iff] at hb'
    obtain ⟨e1,e2,e3,e4,e5,e6⟩ := hb'
    obtain ⟨p,q,hpq⟩ := ih (i + 1) (if x.1 < 0 then ins + 1 else ins) (if x.2.1 < 0 then outs + 1 else outs) hd' (by split <;> omega) (by split <;> omega) (by split <;> omega) (by split <;> omega)
    refine ⟨p,q,?_⟩
    rw [Bool.false_or]
    have hr := blink_ok (bx := bx) (k := k) (n := nd) (a := a) (ins := ins) (outs := outs) oN hF hK hL hg (by rw [hlen]; exact hlt) (by rw [hlen]; omega) e1 e2 e3 e4 e5 e6 (wrap_lo (by omega) (by omega)) (wrap_lo (by omega) (by omega))
    refine (es (hr.trans hpq)).trans ?_
    have c1 : (if x.1 < 0 then ins + 1 else ins) + ((cntW (·.1) xs : Nat) : Int) = ins + ((cntW (·.1) (x :: xs) : Nat) : Int) := by rw [cnt_cons]; split <;> omega
    have c2 : (if x.2.1 < 0 then outs + 1 else outs) + ((cntW (·.2.1) xs : Nat) : Int) = outs + ((cntW (·.2.1) (x :: xs) : Nat) : Int) := by rw [cnt_cons]; split <;> omega
    rw [c1,c2]
 obtain ⟨p,q,hpq⟩ := loop ls 0 0 0 rfl (by omega) (by omega) (by omega) (by omega)
 rw [hkl,hfl] at hpq
 unfold linkedW
 cases hb : ls.any (badX ks.length n.flows.length) with
 | true =>
  rw [hb,if_pos rfl] at hpq
  rw [es (blink_fno oN oF oK hL hpq)]; rfl
 | false =>
  rw [hb,if_neg (by decide),Int.zero_add,Int.zero_add] at hpq
  rw [es (blink_f oN oF oK hL hpq),hlen]; rfl
def headBad (k a : Int) (nl : Nat) : Bool := ((a != 0) && ((k != 7) || (a != 1))) || (decide ((nl : Int) > 0) && (k != 9))
def kB : Blk -> Int
 | .mk k _ _ _ _ => k
def rightB (n : Nt) (k nd a : Int) (ks : List Blk) (ls : List (Int × Int × Int)) : Bool :=
 if headBad k a ls.length = true then false
 else if k = 1 ∨ k = 10 then nd == 0 && (ks.length : Int) == 0
 else if k = 2 then inN n nd && ((ks.length : Int) == 0 && [3,4,8].any fun y => kindN n nd == y)
 else if k = 8 then inN n nd && ((ks.length : Int) == 0 && [5,6,7].any fun y => kindN n nd == y)
 else if k = 3 then nd == 0 && (decide ((ks.length : Int) > 1) && !(ks.any fun b => kB b == 3))
 else if k = 4 then splitN n nd 6 ks.length
 else if k = 5 then splitN n nd 5 ks.length
 else if k = 6 then splitN n nd 7 ks.length
 else if k = 7 then (ks.length : Int) == 2 && splitN n nd 5 ks.length
 else if k = 9 then nd == 0 && (decide ((ks.length : Int) > 0) && linkedW ks.length n.flows.length ls)
 else false
theorem right_ev3 {n : Nt} {N F : D} (h : IsN n N F) (hsz : n.flows.length <= 1000) {k nd a : Int} {ks : List Blk} {ls : List (Int × Int × Int)} {K L : D} (hB : IsB (.mk k nd a ks ls) k nd a K L) (hlm : ls.length < 1000000000) (bx : List Box) :
  ev cfg (.call 73 [Nq N F,Wq k nd a K L] bx) = Rq (B (rightB n k nd a ks ls)) := by
 have hh := h
 obtain ⟨oN,oF⟩ := isN_one h
 obtain ⟨nr,fr,hN,hnr,_,hF,hfr,_⟩ := h
 rw [IsB] at hB
 obtain ⟨_,_,_,_,_,_,rows,hK,hks,hmax,hL,_,_⟩ := hB
 have hkl := isBs_len hks
 have hll : (ls.map lnkD).length = ls.length := by simp
 rw [rightB]
 cases hb : headBad k a ls.length with
 | true =>
  rw [if_pos rfl]
  refine es (bright_no hN oF hK hL ?_)
  rw [hll]; exact hb
 | false =>
  rw [if_neg (by decide)]
  have hb' := hb
  simp only [headBad,Bool.or_eq_false_iff,Bool.and_eq_false_iff] at hb'
  obtain ⟨hb1,hb2⟩ := hb'
  have ha0 : k ≠ 7 -> a = 0 := fun h7 => by
   rcases hb1 with h | h
   ·simpa using h
   ·exact absurd (by simpa using h.1) h7
  have hl0 : k ≠ 9 -> decide (((ls.map lnkD).length : Int) > 0) = false := fun h9 => by
   have : (k != 9) = true := by simpa using h9
   rw [this] at hb2
   rw [hll]
   simpa using hb2
  by_cases k1 : k = 1
  ·subst k1
   obtain rfl := ha0 (by decide)
   rw [if_pos (.inl rfl),<- hkl]
   exact es (bright_1 hN oF hK hL (hl0 (by decide)))
  by_cases k10 : k = 10
  ·subst k10
   obtain rfl := ha0 (by decide)
   rw [if_pos (.inr rfl),<- hkl]
   exact es (bright_10 hN oF hK hL (hl0 (by decide)))
  rw [if_neg (by simp [k1,k10])]
  by_cases k2 : k = 2
  ·subst k2
   obtain rfl := ha0 (by decide)
   rw [if_pos rfl]
   cases hin : inN n nd with
   | false => rw [Bool.false_and]; exact es (bright_2no hN oF hK hL (hl0 (by decide)) ((inN_rows hnr.1 nd).trans hin))
   | true =>
    obtain ⟨p,rfl,hp⟩ := inN_nat hin
    obtain ⟨row,hrow,_,_,op,m,K2,rfl,hT⟩ := hnr.get hp
    rw [Bool.true_and,kind_at hp,<- hkl]
    exact es (bright_2go hN oF hK hL (hl0 (by decide)) hrow fun bx => intHas_ev [3,4,8] _ (isS_sl 1 _) (by decide) _ bx)
  rw [if_neg k2]
  by_cases k8 : k = 8
  ·subst k8
   obtain rfl := ha0 (by decide)
   rw [if_pos rfl]
   cases hin : inN n nd with
   | false => rw [Bool.false_and]; exact es (bright_8no hN oF hK hL (hl0 (by decide)) ((inN_rows hnr.1 nd).trans hin))
   | true =>
    obtain ⟨p,rfl,hp⟩ := inN_nat hin
    obtain ⟨row,hrow,_,_,op,m,K2,rfl,hT⟩ := hnr.get hp
    rw [Bool.true_and,kind_at hp,<- hkl]
    exact es (bright_8go hN oF hK hL (hl0 (by decide)) hrow fun bx => intHas_ev [5,6,7] _ (isS_sl 1 _) (by decide) _ bx)
  rw [if_neg k8]
  by_cases k3 : k = 3
  ·subst k3
   obtain rfl := ha0 (by decide)
   rw [if_pos rfl,<- hkl]
   refine es (bright_3 hN oF hK hL (hl0 (by decide)) fun bx => kids_ev (fun b => kB b == 3) hK hks hmax rfl fun b _ k' n' a' K' L' hB' => ?_)
   have e : k' = kB b := by cases b; rw [IsB] at hB'; exact hB'.1
   subst e
   exact es (right1_f (isB_one hB').1 (isB_one hB').2)
  rw [if_neg k3]
  by_cases k4 : k = 4
  ·subst k4
   obtain rfl := ha0 (by decide)
   rw [if_pos rfl,<- hkl]
   exact es (bright_4 hN oF hK hL (hl0 (by decide)) fun bx => splits_ev hh (by omega) nd 6 _ bx)
  rw [if_neg k4]
  by_cases k5 : k = 5
  ·subst k5
   obtain rfl := ha0 (by decide)
   rw [if_pos rfl,<- hkl]
   exact es (bright_5 hN oF hK hL (hl0 (by decide)) fun bx => splits_ev hh (by omega) nd 5 _ bx)
  rw [if_neg k5]
  by_cases k6 : k = 6
  ·subst k6
   obtain rfl := ha0 (by decide)
   rw [if_pos rfl,<- hkl]
   exact es (bright_6 hN oF hK hL (hl0 (by decide)) fun bx => splits_ev hh (by omega) nd 7 _ bx)
  rw [if_neg k6]
  by_cases k7 : k = 7
  ·subst k7
   rw [if_pos rfl,<- hkl]
   refine es (bright_7 hN oF hK hL (hl0 (by decide)) ?_ fun bx => splits_ev hh (by omega) nd 5 _ bx)
   rcases hb1 with h1 | h1
   ·rw [h1]; rfl
   ·rw [h1.2,Bool.and_false]
  rw [if_neg k7]
  by_cases k9 : k = 9
  ·subst k9
   obtain rfl := ha0 (by decide)
   rw [if_pos rfl]
   have := es (bright_9 (n := nd) (bx := bx) (fun bx => linked_evB hh hK hks hL hlm 9 nd 0 bx) hN oF hK hL)
   rw [this,hkl]
  rw [if_neg k9]
  obtain rfl := ha0 k7
  exact es (bright_o hN oF hK hL (hl0 k9) (by simpa using k1) (by simpa using k10) (by simpa using k2) (by simpa using k8) (by simpa using k3) (by simpa using k4) (by simpa using k5) (by simpa using k6) (by simpa using k7) (by simpa using k9))
def nestB (n : Nt) : Blk -> Bool
 | .mk k nd a ks ls => rightB n k nd a ks ls && !go k ks
where
 /-- is some kid wrong? -/
 go (pk : Int) : List Blk -> Bool
 | [] => false
 | b :: bs => (kB b == 9 || (kB b == 10 || ((kB b == 8 && pk != 9) || !nestB n b))) || go pk bs
theorem nest_any (n : Nt) (pk : Int) : ∀ bs : List Blk,nestB.go n pk bs = bs.any fun b => kB b == 9 || (kB b == 10 || ((kB b == 8 && pk != 9) || !nestB n b))
 | [] => by rw [nestB.go]; rfl
 | b :: bs => by rw [nestB.go,List.any_cons,nest_any n pk bs]
def okL : Blk -> Prop
 | .mk _ _ _ ks ls => ls.length < 1000000000 /\ go ks
where
 go : List Blk -> Prop
 | [] => True
 | b :: bs => okL b /\ go bs
theorem okL_mem : ∀ {bs : List Blk},okL.go bs -> ∀ b ∈ bs,okL b
 | [],_,b,h => by cases h
 | c :: bs,h,b,hb => by
  rw [okL.go] at h
  rcases List.mem_cons.1 hb with rfl | hb
  ·exact h.1
  ·exact okL_mem h.2 b hb
theorem cap_new {bx : List Box} {c d : Box} : ([bx.length + 1,bx.length].all fun l => decide (l < (bx ++ [c,d]).length)) = true := by simp
theorem nest_ev {n : Nt} {N F : D} (h : IsN n N F) (hsz : n.flows.length <= 1000) : ∀ (b : Blk) {k nd a : Int} {K L : D},IsB b k nd a K L -> okL b -> ∀ bx : List Box,
  ev cfg (.call 43 [Nq N F,Wq k nd a K L] bx) = Rq (B (nestB n b))
 | .mk _ _ _ ks ls,k,nd,a,K,L,hB,hok,bx => by
  have hB0 := hB
  obtain ⟨oN,oF⟩ := isN_one h
  obtain ⟨oK,oL⟩ := isB_one hB
  rw [IsB] at hB
  obtain ⟨rfl,rfl,rfl,_,_,_,rows,hK,hks,hmax,hL,_,_⟩ := hB
  rw [okL] at hok
  have hr := fun bx : List Box => right_ev3 h hsz hB0 hok.1 bx
  rw [nestB]
  cases hrb : rightB n k nd a ks ls with
  | false =>
   rw [hrb] at hr
   rw [Bool.false_and]
   exact es (nest_no oK oL oN oF hr)
  | true =>
   rw [hrb] at hr
   rw [Bool.true_and,nest_any]
   refine es (nest_f oK oL oN oF hr ?_)
   refine kids_ev _ hK hks hmax cap_new fun b hb k' n' a' K' L' hB' => ?_
   have e : k' = kB b := by cases b; rw [IsB] at hB'; exact hB'.1
   subst e
   exact es (nest1_f (isB_one hB').1 (isB_one hB').2 oN oF (by simp) (by simp) (by rw [app_get]; rfl) (by rw [app_get0]; rfl) fun bx => nest_ev h hsz b hB' (okL_mem hok.2 b hb) bx)
termination_by b => SizeOf.sizeOf b
decreasing_by
 have := List.sizeOf_lt_of_mem hb
 simp
 omega
def dupB (l : List Int) : Bool := decide ((Lib.compact (sortI l)).length < (sortI l).length)
def chkB (ok : Bool) (n : Nt) (b : Blk) : Int :=
 if ok = false then 1 else if longB b = true then 2 else if nestB n b = false then 4 else if dupB (nodesB n b) = true then 8 else 0
theorem clone_ev (xs : List Int) (hl : xs.length < 1000000000) (bx : List Box) : ev cfg (.call 46 [.dat (mkD 1 (intR xs))] bx) = Rq (mkS 1 (intR xs)) := by
 cases xs with
 | nil => exact es clone_nil
 | cons x xs => exact es (clone_rows (r := [dI x]) (rs := intR xs) (by rw [intR_len]; simp at hl; omega))
theorem bcheck_ev {n : Nt} {N F : D} (h : IsN n N F) (hfl : n.flows.length <= 1000) (hnd : n.nodes.length <= 1000) (hz : ∀ t ∈ termsN n,sizeT t <= 1000000) (ok : Bool) (hk : ok = true ↔ OkN n)
  (b : Blk) {k nd a : Int} {K L : D} (hB : IsB b k nd a K L) (hbz : sizeB b <= 1000) (hok : okL b) (bx : List Box) :
  ev cfg (.call 19 [Nq N F,Wq k nd a K L] bx) = Rq (I (chkB ok n b)) := by
 obtain ⟨oN,oF⟩ := isN_one h
 obtain ⟨oK,oL⟩ := isB_one hB
 obtain ⟨r,q,hr,hn⟩ := ncheck_ev h hfl hnd hz
 unfold chkB
 cases ok with
 | false =>
  rw [if_pos rfl]
  have h0 : ¬ OkN n := fun h => by have := hk.2 h; cases this
  have : (r != 0) = true := by simpa using fun e => h0 (hr.1 e)
  exact es (bcheck_arg oK oL oN oF hn this)
 | true =>
  rw [if_neg (by decide)]
  obtain rfl : r = 0 := hr.2 (hk.1 rfl)
  have hlg := fun bx : List Box => long_ev b hB (by omega) bx
  cases h1 : longB b with
  | true =>
   rw [h1] at hlg
   rw [if_pos rfl]
   exact es (bcheck_long oK oL oN oF hn hlg)
  | false =>
   rw [h1] at hlg
   rw [if_neg (by decide)]
   have hns := fun bx : List Box => nest_ev h hfl b hB hok bx
   cases h2 : nestB n b with
   | false =>
    rw [h2] at hns
    rw [if_pos rfl]
    exact es (bcheck_form oK oL oN oF hn hlg hns)
   | true =>
    rw [h2] at hns
    rw [if_neg (by decide)]
    have hno := fun bx : List Box => nodes_ev h hfl b hB hbz bx
    have hlen := nodesB_len hfl b
    have hsl : (sortI (nodesB n b)).length = (nodesB n b).length := List.length_mergeSort ..
    have hcl := fun bx : List Box => clone_ev (sortI (nodesB n b)) (by rw [hsl]; omega) bx
    unfold dupB
    cases hs : sortI (nodesB n b) with
    | nil =>
     rw [hs] at hno hcl
     have : decide ((Lib.compact ([] : List Int)).length < ([] : List Int).length) = false := by simp
     rw [this,if_neg (by decide)]
     exact es (bcheck_nil oK oL oN oF hn hlg hns hno hcl)
    | cons y ys =>
     rw [hs] at hno hcl
     have hzl : (y :: ys).length < 4611686018427387904 := by rw [<- hs,hsl]; omega
     have e : decide (((rowsOf (Lib.compact (y :: ys))).length : Int) < ((intR (y :: ys)).length : Int)) = decide ((Lib.compact (y :: ys)).length < (y :: ys).length) := by
      rw [show (rowsOf (Lib.compact (y :: ys))).length = (Lib.compact (y :: ys)).length by simp [rowsOf],intR_len]
      exact decide_eq_decide.2 (by omega)
     cases hd : decide ((Lib.compact (y :: ys)).length < (y :: ys).length) with
     | true =>
      rw [hd] at e
      rw [if_pos rfl]
      exact es (bcheck_same oK oL oN oF hn hlg hns hno hcl (intRows_intR _) hzl e)
     | false =>
      rw [hd] at e
      rw [if_neg (by decide)]
      exact es (bcheck_ok oK oL oN oF hn hlg hns hno hcl (intRows_intR _) hzl e)
def isEnd (x : Nd) : Bool := x.k == 1 || x.k == 2
def goneN (n : Nt) (i : Nat) : Bool := match n.nodes[i]? with
 | some x => isEnd x
 | none => false
def beginB (i : Nat) (x : Nd) : Blk := .mk (if x.k = 5 ∨ x.k = 6 ∨ x.k = 7 then 8 else 2) i 0 [] []
def allB : Nat -> List Nd -> List Blk
 | _,[] => []
 | i,x :: xs => beginB i x :: allB (i + 1) xs
def placeN (n : Nt) (p : Nat) : Int := if goneN n p = true then -1 else rank (goneN n) p
def beginL (n : Nt) : Nat -> List Fl -> List Lk
 | _,[] => []
 | i,f :: fs => (placeN n f.fr.toNat,placeN n f.to.toNat,(i : Int)) :: beginL n (i + 1) fs
def beginW (n : Nt) : Wb := ⟨dropK (goneN n) 0 (allB 0 n.nodes),beginL n 0 n.flows⟩
theorem allB_get : ∀ {xs : List Nd} {i j : Nat} {b : Blk},(allB i xs)[j]? = some b -> ∃ x,xs[j]? = some x /\ b = beginB (i + j) x
 | [],i,j,b,h => by simp [allB] at h
 | x :: xs,i,0,b,h => by
  simp [allB] at h
  exact ⟨x,rfl,h.symm⟩
 | x :: xs,i,j + 1,b,h => by
  rw [allB,List.getElem?_cons_succ] at h
  obtain ⟨y,h1,h2⟩ := allB_get h
  exact ⟨y,by simpa using h1,by rw [h2,show i + (j + 1) = i + 1 + j by omega]⟩
theorem allB_len : ∀ {xs : List Nd} {i : Nat},(allB i xs).length = xs.length
 | [],i => rfl
 | x :: xs,i => by rw [allB,List.length_cons,List.length_cons,allB_len]
theorem allB_size : ∀ {xs : List Nd} {i : Nat},sizeW (allB i xs) = xs.length
 | [],i => rfl
 | x :: xs,i => by
  have := allB_size (xs := xs) (i := i + 1)
  rw [allB,sizeW,szB.szBs,List.length_cons]
  rw [sizeW] at this
  rw [this,beginB,szB,szB.szBs]
  omega
theorem beginL_len (n : Nt) : ∀ {fs : List Fl} {i : Nat},(beginL n i fs).length = fs.length
 | [],i => rfl
 | f :: fs,i => by rw [beginL,List.length_cons,List.length_cons,beginL_len n]
theorem beginL_mem (n : Nt) : ∀ {fs : List Fl} {i : Nat} {l : Lk},l ∈ beginL n i fs -> ∃ k f,fs[k]? = some f /\ l = (placeN n f.fr.toNat,placeN n f.to.toNat,((i + k : Nat) : Int))
 | [],i,l,h => by simp [beginL] at h
 | f :: fs,i,l,h => by
  rw [beginL] at h
  rcases List.mem_cons.1 h with rfl | h
  ·exact ⟨0,f,rfl,rfl⟩
  ·obtain ⟨k,g,h1,h2⟩ := beginL_mem n h
   exact ⟨k + 1,g,by simpa using h1,by rw [h2,show i + 1 + k = i + (k + 1) by omega]⟩
theorem idxs_begin (n : Nt) {p' : Lk -> Bool} {p : Fl -> Bool} : ∀ {fs : List Fl} {i c : Nat},(∀ f ∈ fs,∀ k : Nat,p' (placeN n f.fr.toNat,placeN n f.to.toNat,(k : Int)) = p f) -> idxs p' c (beginL n i fs) = idxs p c fs
 | [],i,c,_ => rfl
 | f :: fs,i,c,h => by
  rw [beginL,idxs,idxs,h f mcs i,idxs_begin n fun g hg => h g (mcm _ hg)]
theorem place_eq {n : Nt} {x : Int} {p : Nat} (hx : 0 <= x) (hp : goneN n p = false) : (placeN n x.toNat == ((rank (goneN n) p : Nat) : Int)) = (x == (p : Int)) := by
 rw [placeN]
 split
 ·rename_i hg
  have e1 : ((-1 : Int) == ((rank (goneN n) p : Nat) : Int)) = false := beq_eq_false_iff_ne.2 (by omega)
  have e2 : (x == (p : Int)) = false := beq_eq_false_iff_ne.2 fun e => by
   have : x.toNat = p := by omega
   rw [this,hp] at hg; cases hg
  rw [e1,e2]
 ·rename_i hg
  rw [Bool.not_eq_true] at hg
  by_cases e : x = p
  ·have : x.toNat = p := by omega
   rw [this,e]; simp
  ·have e1 : (((rank (goneN n) x.toNat : Nat) : Int) == ((rank (goneN n) p : Nat) : Int)) = false := beq_eq_false_iff_ne.2 fun h => e (by have := rank_inj hg hp (by omega); omega)
   rw [e1,beq_eq_false_iff_ne.2 e]
theorem place_rng {n : Nt} {x : Int} (hx : 0 <= x /\ x < n.nodes.length) : -1 <= placeN n x.toNat /\ placeN n x.toNat < (beginW n).ks.length := by
 rw [placeN]
 split
 ·omega
 ·rename_i hg
  rw [Bool.not_eq_true] at hg
  have := rank_lt (bs := allB 0 n.nodes) (gone := goneN n) (x := x.toNat) (by rw [allB_len]; omega) hg
  exact ⟨by omega,by show _ < ((dropK (goneN n) 0 (allB 0 n.nodes)).length : Int); omega⟩
theorem ok_linked {n : Nt} (h : OkN n) {i : Nat} (hi : i < n.nodes.length) : linkedN n i = true := by
 have := h.2.2.2.2.1 i hi
 rw [thirdW] at this
 simp only [Bool.or_eq_false_iff,Bool.not_eq_eq_eq_not,Bool.not_false] at this
 exact this.1
theorem ok_gates {n : Nt} (h : OkN n) : Gates n := by
 refine ⟨h.1,fun v h0 h1 hk => ?_⟩
 obtain ⟨i,rfl⟩ : ∃ i : Nat,v = i := ⟨v.toNat,by omega⟩
 have hl := ok_linked h (i := i) (by omega)
 unfold linkedN at hl
 simp only at hl
 rcases hk with hk | hk | hk <;> rw [hk] at hl
 ·rw [if_neg (by decide),if_neg (by decide),if_neg (by decide),if_pos rfl] at hl
  simp only [Bool.or_eq_true,Bool.and_eq_true,beq_iff_eq,dqE] at hl
  rcases hl with hl | hl
  ·exact .inl ⟨hl.1.1,hl.1.2⟩
  ·exact .inr ⟨hl.1,hl.2,by rw [hk]; decide⟩
 ·rw [if_neg (by decide),if_neg (by decide),if_neg (by decide),if_neg (by decide),if_pos rfl] at hl
  simp only [Bool.or_eq_true,Bool.and_eq_true,beq_iff_eq,dqE] at hl
  rcases hl with hl | hl
  ·exact .inl hl
  ·exact .inr ⟨hl.1,hl.2,by rw [hk]; decide⟩
 ·rw [if_neg (by decide),if_neg (by decide),if_pos rfl] at hl
  simp only [Bool.and_eq_true,beq_iff_eq,dqE] at hl
  exact .inl ⟨hl.1,hl.2.1⟩
theorem ok_ends {n : Nt} (h : OkN n) : Ends n := leads_ends h.2.2.2.1
theorem right_kind {x : Nd} (h : rightN ofT x = true) : 1 <= x.k /\ x.k <= 8 := by
 rw [rightN] at h
 split at h
 ·omega
 ·simp only [Bool.and_eq_true,dqE] at h
  exact h.1
theorem begin_inv {n : Nt} (h : OkN n) : InvW n (beginW n) := by
 have hE := ok_ends h
 refine ⟨fun l hl => ?_,fun i b hb => ?_,?_,?_⟩
 ·obtain ⟨k,f,h1,rfl⟩ := beginL_mem n hl
  have hf := hE f (mog h1)
  have hk : k < n.flows.length := (gsi.1 h1).1
  exact ⟨place_rng hf.1,place_rng hf.2,by show (0 : Int) <= ((0 + k : Nat) : Int); omega,by show ((0 + k : Nat) : Int) < _; omega⟩
 ·obtain ⟨x,_,h2,h3,h4⟩ := dropK_get hb
  rw [Nat.sub_zero] at h2
  obtain ⟨nd,h5,rfl⟩ := allB_get h2
  rw [Nat.zero_add]
  have e0 : rank (goneN n) 0 = 0 := rfl
  rw [e0,Nat.zero_add] at h4
  subst h4
  have hxl : x < n.nodes.length := (gsi.1 h5).1
  have c1 : insW (beginW n).ls (rank (goneN n) x : Nat) = insN n x := idxs_begin n fun f hf k => place_eq (hE f hf).2.1 h3
  have c2 : outsW (beginW n).ls (rank (goneN n) x : Nat) = outsN n x := idxs_begin n fun f hf k => place_eq (hE f hf).1.1 h3
  rw [c1,c2]
  have hkd : kindN n x = nd.k := by
   rw [kind_at hxl]
   rw [gge hxl] at h5
   rw [sij h5]
  have hne : nd.k ≠ 1 /\ nd.k ≠ 2 := by
   rw [goneN,h5] at h3
   simpa [isEnd] using h3
  have hrk := right_kind (h.2.2.1 nd (mog h5))
  have hn24 := h.1
  by_cases hg : nd.k = 5 ∨ nd.k = 6 ∨ nd.k = 7
  ·have eB : beginB x nd = .mk 8 x 0 [] [] := by rw [beginB,if_pos hg]
   rw [eB]
   refine ⟨by rw [okK,okK.okKs]; simp; omega,by simp [Blk.kd],fun _ => ⟨⟨by show (0 : Int) <= (x : Int); omega,by show (x : Int) < _; omega⟩,by show kindN n x = 5 ∨ kindN n x = 6 ∨ kindN n x = 7; rw [hkd]; exact hg,rfl,rfl⟩,fun h8 => absurd rfl h8,fun h3 => by simp [Blk.kd] at h3⟩
  ·have eB : beginB x nd = .mk 2 x 0 [] [] := by rw [beginB,if_neg hg]
   rw [eB]
   have hl := ok_linked h hxl
   unfold linkedN at hl
   simp only [hkd] at hl
   rw [if_neg hne.1,if_neg hne.2,if_neg (by omega),if_neg (by omega),if_neg (by omega)] at hl
   simp only [Bool.and_eq_true,beq_iff_eq] at hl
   exact ⟨by rw [okK,okK.okKs]; simp; omega,by simp [Blk.kd],fun h8 => by simp [Blk.kd] at h8,fun _ => hl,fun h3 => by simp [Blk.kd] at h3⟩
 ·have h1 := dropK_size (gone := goneN n) (bs := allB 0 n.nodes) (i := 0)
  rw [allB_size] at h1
  have h2 := beginL_len n (fs := n.flows) (i := 0)
  have := h.1
  have := h.2.1
  show sizeW (dropK (goneN n) 0 (allB 0 n.nodes)) + (beginL n 0 n.flows).length <= 64
  omega
 ·have h1 := dropK_le (gone := goneN n) (bs := allB 0 n.nodes) (i := 0)
  rw [allB_len] at h1
  have h2 := beginL_len n (fs := n.flows) (i := 0)
  have := h.1
  have := h.2.1
  exact ⟨by show (dropK (goneN n) 0 (allB 0 n.nodes)).length <= 24; omega,by show (beginL n 0 n.flows).length <= 40; omega⟩
def prB (n : Nt) (i m : Nat) : List (List D) := (List.range i).map (fun j => [dI (placeN n j)]) ++ List.replicate m [dI 0]
theorem prB_get {n : Nt} {i m : Nat} : (prB n i (m + 1))[i]? = some [dI 0] := by
 rw [prB,gar (by simp)]
 simp
theorem prB_set {n : Nt} {i m : Nat} : (prB n i (m + 1)).set i [dI (placeN n i)] = prB n (i + 1) m := by
 rw [prB,prB,List.range_succ,List.map_append,List.replicate_succ,List.set_append_right _ _ (by simp)]
 simp
theorem prB_end {n : Nt} {i j : Nat} (h : j < i) : (prB n i 0)[j]? = some [dI (placeN n j)] := by
 rw [prB,List.replicate_zero,List.append_nil,List.getElem?_map,List.getElem?_range h]; rfl
def pW (w : Wb) : PV := Wq 9 0 0 (mkD 5 (cB.cBs w.ks)) (mkD 3 (w.ls.map lnkD))
section
variable {n : Nt} {N F : D}
theorem begin_ev (h : IsN n N F) (hfl : n.flows.length <= 1000) (hnd : n.nodes.length <= 1000) (hz : ∀ t ∈ termsN n,sizeT t <= 1000000) (bx : List Box) :
  (OkN n -> ev cfg (.call 11 [Nq N F] bx) = Rq (.tup [pW (beginW n),I 0])) ∧
  (¬ OkN n -> ev cfg (.call 11 [Nq N F] bx) = Rq (.tup [Wq 0 0 0 .nil .nil,I 4])) := by
 obtain ⟨o1,o2⟩ := isN_one h
 obtain ⟨r,q,hr,hc⟩ := ncheck_ev h hfl hnd hz
 have h0 := h
 obtain ⟨nr,fr,hN,hnr,_,hF,hfr,_⟩ := h
 have hlen : nr.length = n.nodes.length := hnr.1
 have hflen : fr.length = n.flows.length := hfr.1
 refine ⟨fun hok => ?_,fun hno => ?_⟩
 case refine_2 =>
  have : r ≠ 0 := fun e => hno (hr.1 e)
  exact es (fbegin_err o1 o2 (fun r0 r1 => hc _) (by simpa using this))
 have hr0 : (r != 0) = false := by simpa using hr.2 hok
 have hE := ok_ends hok
 have loop1 : ∀ (xs : List Nd) (i m : Nat) (acc : List Blk),n.nodes.drop i = xs -> m = xs.length -> acc.length = rank (goneN n) i -> acc.length <= i →
   ev cfg (.loop 11 7 (qs bx (sh11_7 (P0 bx) (P1 bx) (P2 bx) (.own true 1 (prB n i m)) (.dat N) (I nr.length) (I i)) [Nb N F,E6,[I 9,I 0,I 0,mkS 5 (cB.cBs acc),.dat .nil]])) =
    some (.loop (.exit 0) (qs bx (se11_7 (P0 bx) (P1 bx) (P2 bx) (.own true 1 (prB n (i + m) 0))) [Nb N F,E6,[I 9,I 0,I 0,mkS 5 (cB.cBs (acc ++ dropK (goneN n) i (allB i xs))),.dat .nil]])) := by
  intro xs
  induction xs with
  | nil =>
   intro i m acc hd hm _ _
   have hm0 : m = 0 := hm
   subst hm0
   rw [allB,dropK,List.append_nil]
   exact es (fbegin_kend o1 o2 (by rw [hlen]; exact drop_nil hd))
  | cons x xs ih =>
   intro i m acc hd hm ha hai
   obtain ⟨hget,hd',hlt⟩ := drop_cons hd
   have hm1 : m = xs.length + 1 := hm
   subst hm1
   obtain ⟨row,hrow,_,_,op,mm,K,rfl,hT⟩ := hnr.2 i x hget
   have hlti : i < nr.length := by rw [hlen]; exact hlt
   have hmx : nr.length < 9223372036854775808 := by omega
   have hKT := isT_one hT
   have hge : goneN n i = isEnd x := by rw [goneN,hget]
   rw [show i + (xs.length + 1) = i + 1 + xs.length by omega,allB,dropK]
   by_cases hend : isEnd x = true
   ·rw [if_pos (by rw [hge]; exact hend)]
    have hpl : placeN n i = -1 := by rw [placeN,if_pos (by rw [hge]; exact hend)]
    have h2 := ih (i + 1) xs.length acc hd' rfl (by rw [rank_gone (by rw [hge]; exact hend)]; exact ha) (by omega)
    have hset := prB_set (n := n) (i := i) (m := xs.length)
    rw [hpl] at hset
    rw [isEnd,Bool.or_eq_true] at hend
    by_cases k1 : (x.k == 1) = true
    ·have hrr := fbegin_end1 (KP := cB.cBs acc) (bx := bx) hN o2 hrow hKT hlti hmx (prB_get (n := n) (m := xs.length)) k1
     rw [hset] at hrr
     exact es (hrr.trans h2)
    ·rw [Bool.not_eq_true] at k1
     have k2 : (x.k == 2) = true := by rcases hend with h | h; rw [k1] at h; cases h; exact h
     have hrr := fbegin_end2 (KP := cB.cBs acc) (bx := bx) hN o2 hrow hKT hlti hmx (prB_get (n := n) (m := xs.length)) k1 k2
     rw [hset] at hrr
     exact es (hrr.trans h2)
   ·have hgf : goneN n i = false := by rw [hge]; simpa using hend
    rw [if_neg (by rw [hgf]; exact fnt)]
    have hpl : placeN n i = (acc.length : Nat) := by rw [placeN,if_neg (by rw [hgf]; exact fnt),ha]
    have h2 := ih (i + 1) xs.length (acc ++ [beginB i x]) hd' rfl (by rw [rank_succ hgf,<- ha]; simp) (by simp; omega)
    rw [List.append_assoc] at h2
    have hset := prB_set (n := n) (i := i) (m := xs.length)
    rw [hpl] at hset
    have hks : ((cB.cBs acc).length + 1) * 72 <= 140737488355328 := by rw [cBs_len]; omega
    simp only [isEnd,Bool.or_eq_true,not_or,Bool.not_eq_true] at hend
    obtain ⟨k1,k2⟩ := hend
    have happ : mkS 5 (cB.cBs (acc ++ [beginB i x])) = .own true 5 (cB.cBs acc ++ [cB (beginB i x)]) := by rw [cBs_app]; exact mkS_app 5 _ _
    rw [happ] at h2
    have hset' : (prB n i (xs.length + 1)).set i [dI ((cB.cBs acc).length : Nat)] = prB n (i + 1) xs.length := by rw [cBs_len]; exact hset
    by_cases k5 : (x.k == 5) = true
    ·have eB : cB (beginB i x) = [dI 8,dI i,dI 0,.nil,.nil] := by rw [beginB,if_pos (.inl (by simpa using k5))]; rfl
     rw [eB] at h2
     cases acc with
     | nil =>
      have hrr := fbegin_g50 (bx := bx) hN o2 hrow hKT hlti hmx (prB_get (n := n) (m := xs.length)) k1 k2 k5
      rw [show [dI ((0 : Nat) : Int)] = [dI (([] : List Blk).length : Nat)] from rfl,hset] at hrr
      exact es (hrr.trans h2)
     | cons c acc =>
      have hrr := fbegin_g51 (bx := bx) (ks := cB.cBs (c :: acc)) hN o2 hrow hKT hlti hmx (prB_get (n := n) (m := xs.length)) k1 k2 k5 hks
      rw [hset'] at hrr
      exact es (hrr.trans h2)
    rw [Bool.not_eq_true] at k5
    by_cases k6 : (x.k == 6) = true
    ·have eB : cB (beginB i x) = [dI 8,dI i,dI 0,.nil,.nil] := by rw [beginB,if_pos (.inr (.inl (by simpa using k6)))]; rfl
     rw [eB] at h2
     cases acc with
     | nil =>
      have hrr := fbegin_g60 (bx := bx) hN o2 hrow hKT hlti hmx (prB_get (n := n) (m := xs.length)) k1 k2 k5 k6
      rw [show [dI ((0 : Nat) : Int)] = [dI (([] : List Blk).length : Nat)] from rfl,hset] at hrr
      exact es (hrr.trans h2)
     | cons c acc =>
      have hrr := fbegin_g61 (bx := bx) (ks := cB.cBs (c :: acc)) hN o2 hrow hKT hlti hmx (prB_get (n := n) (m := xs.length)) k1 k2 k5 k6 hks
      rw [hset'] at hrr
      exact es (hrr.trans h2)
    rw [Bool.not_eq_true] at k6
    by_cases k7 : (x.k == 7) = true
    ·have eB : cB (beginB i x) = [dI 8,dI i,dI 0,.nil,.nil] := by rw [beginB,if_pos (.inr (.inr (by simpa using k7)))]; rfl
     rw [eB] at h2
     cases acc with
     | nil =>
      have hrr := fbegin_g70 (bx := bx) hN o2 hrow hKT hlti hmx (prB_get (n := n) (m := xs.length)) k1 k2 k5 k6 k7
      rw [show [dI ((0 : Nat) : Int)] = [dI (([] : List Blk).length : Nat)] from rfl,hset] at hrr
      exact es (hrr.trans h2)
     | cons c acc =>
      have hrr := fbegin_g71 (bx := bx) (ks := cB.cBs (c :: acc)) hN o2 hrow hKT hlti hmx (prB_get (n := n) (m := xs.length)) k1 k2 k5 k6 k7 hks
      rw [hset'] at hrr
      exact es (hrr.trans h2)
    rw [Bool.not_eq_true] at k7
    have eB : cB (beginB i x) = [dI 2,dI i,dI 0,.nil,.nil] := by
     rw [beginB,if_neg (by simp at k5 k6 k7; omega)]; rfl
    rw [eB] at h2
    cases acc with
    | nil =>
     have hrr := fbegin_leaf0 (bx := bx) hN o2 hrow hKT hlti hmx (prB_get (n := n) (m := xs.length)) k1 k2 k5 k6 k7
     rw [show [dI ((0 : Nat) : Int)] = [dI (([] : List Blk).length : Nat)] from rfl,hset] at hrr
     exact es (hrr.trans h2)
    | cons c acc =>
     have hrr := fbegin_leaf1 (bx := bx) (ks := cB.cBs (c :: acc)) hN o2 hrow hKT hlti hmx (prB_get (n := n) (m := xs.length)) k1 k2 k5 k6 k7 hks
     rw [hset'] at hrr
     exact es (hrr.trans h2)
 have loop2 : ∀ (xs : List Fl) (i : Nat) (acc : List Lk),n.flows.drop i = xs -> acc.length <= i →
   ev cfg (.loop 11 22 (qs bx (sh11_22 (P1 bx) (P2 bx) (.own true 1 (prB n n.nodes.length 0)) (.dat F) (I fr.length) (I i)) [Nb N F,E6,[I 9,I 0,I 0,mkS 5 (cB.cBs (beginW n).ks),mkS 3 (acc.map lnkD)]])) =
    some (.loop (.exit 3) (qs bx (se11_22 (P1 bx) (P2 bx)) [Nb N F,E6,[I 9,I 0,I 0,mkS 5 (cB.cBs (beginW n).ks),mkS 3 ((acc ++ beginL n i xs).map lnkD)]])) := by
  intro xs
  induction xs with
  | nil =>
   intro i acc hd _
   rw [beginL,List.append_nil]
   exact es (fbegin_lend o1 o2 (by rw [hflen]; exact drop_nil hd))
  | cons f fs ih =>
   intro i acc hd ha
   obtain ⟨hget,hd',hlt⟩ := drop_cons hd
   obtain ⟨row,hrow,_,_,op,mm,K,rfl,hT⟩ := hfr.2 i f hget
   have hf := hE f (mog hget)
   have e1 : f.fr = ((f.fr.toNat : Nat) : Int) := by omega
   have e2 : f.to = ((f.to.toNat : Nat) : Int) := by omega
   rw [e1,e2] at hrow
   have hp := prB_end (n := n) (show f.fr.toNat < n.nodes.length by omega)
   have hq := prB_end (n := n) (show f.to.toNat < n.nodes.length by omega)
   have h2 := ih (i + 1) (acc ++ [(placeN n f.fr.toNat,placeN n f.to.toNat,(i : Int))]) hd' (by simp; omega)
   rw [List.append_assoc,List.map_append,List.map_append] at h2
   have hlti : i < fr.length := by rw [hflen]; exact hlt
   have hmx : fr.length < 9223372036854775808 := by omega
   rw [beginL,List.map_append]
   have hsn : mkS 3 (acc.map lnkD ++ [lnkD (placeN n f.fr.toNat,placeN n f.to.toNat,(i : Int))]) = .own true 3 (acc.map lnkD ++ [[dI (placeN n f.fr.toNat),dI (placeN n f.to.toNat),dI i]]) := mkS_app 3 _ _
   rw [show List.map lnkD [(placeN n f.fr.toNat,placeN n f.to.toNat,(i : Int))] = [lnkD (placeN n f.fr.toNat,placeN n f.to.toNat,(i : Int))] from rfl,hsn] at h2
   cases acc with
   | nil => exact es ((fbegin_l0 (bx := bx) (ks := cB.cBs (beginW n).ks) o1 hF hrow (isT_one hT) hlti hmx hp hq).trans h2)
   | cons c acc => exact es ((fbegin_l1 (bx := bx) (ks := cB.cBs (beginW n).ks) (ls := (c :: acc).map lnkD) o1 hF hrow (isT_one hT) hlti hmx hp hq (by rw [List.length_map]; omega)).trans h2)
 have h1 := loop1 n.nodes 0 n.nodes.length [] rfl rfl rfl (Nat.le_refl _)
 have h2 := loop2 n.flows 0 [] rfl (Nat.le_refl _)
 rw [Nat.zero_add,List.nil_append] at h1
 rw [List.nil_append] at h2
 refine es (fbegin_f (pr := prB n n.nodes.length 0) (ks := cB.cBs (beginW n).ks) (ls := (beginW n).ls.map lnkD) hN hF (fun r0 r1 => hc _) hr0 (by omega) ?_ h2)
 have e : prB n 0 n.nodes.length = List.replicate nr.length [dI 0] := by rw [prB,hlen]; rfl
 rw [e] at h1
 exact h1
end
def resW (w : Wb) : Blk := match w.ks with
 | [] => emptyB
 | [b] => if (!(b.kd == 8) && w.ls.length == 2) = true then b else .mk 9 0 0 w.ks w.ls
 | _ => .mk 9 0 0 w.ks w.ls
def foldN (n : Nt) : Blk := resW (foldsW n 100 (beginW n))
section
variable {n : Nt} {N F : D}
theorem nil_step {bx : List Box} {l : Nat} {Y : PV} (hl : l < bx.length) (hb : bx[l]? = some [.dat N,.dat F,.dat .nil,Y]) : ev cfg (.call 28 [.ptr l 0] bx) = Rq (I 0) :=
 es (fstep_0 hl (es (finrow_nil hl hb (es (finrow_end (m := 0) (i := 0) hl (Nat.le_refl _))))) (es (fclosed_nil hl hb (es (fclosed_end (m := 0) (i := 0) hl (Nat.le_refl _))))) (es (fround_nil hl hb (es (fround_end (m := 0) (i := 0) hl (Nat.le_refl _))))))
theorem next_nil {n : Nt} {w : Wb} (h : w.ks = []) : nextW n w = (w,0) := by
 unfold nextW; rw [h]; rfl
theorem folds_nil {n : Nt} {w : Wb} (h : w.ks = []) (k : Nat) : foldsW n k w = w := folds_stop (by rw [next_nil h]) (by rw [next_nil h]) k
theorem fold_ev (h : IsN n N F) (hfl : n.flows.length <= 1000) (hnd : n.nodes.length <= 1000) (hz : ∀ t ∈ termsN n,sizeT t <= 1000000) (bx : List Box) :
  (OkN n -> ev cfg (.call 9 [Nq N F] bx) = Rq (.tup [pB (foldN n),I 0])) ∧
  (¬ OkN n -> ev cfg (.call 9 [Nq N F] bx) = Rq (.tup [Wq 0 0 0 .nil .nil,I 4])) := by
 obtain ⟨o1,o2⟩ := isN_one h
 refine ⟨fun hok => ?_,fun hno => ?_⟩
 case refine_2 => exact es (fFold_err o1 o2 (fun r0 r1 => (begin_ev h hfl hnd hz _).2 hno) rfl)
 have hG := ok_gates hok
 have hw := begin_inv hok
 have hb : ∀ r0 r1 : Box,_ := fun r0 r1 : Box => (begin_ev h hfl hnd hz (bx ++ [r0,r1])).1 hok
 rw [foldN]
 generalize beginW n = w at *
 have hkl : (cB.cBs w.ks).length <= 1000 := by rw [cBs_len]; have := hw.lens; omega
 have hll : (w.ls.map lnkD).length <= 1000 := by rw [List.length_map]; have := hw.lens; omega
 have ho : ∀ r0 r1 r2 : Box,ev cfg (.call 27 [Nq N F,Wq 9 0 0 (mkD 5 (cB.cBs w.ks)) (mkD 3 (w.ls.map lnkD))] (bx ++ [r0,r1,r2])) =
   some (.ret (P5 bx) (some ⟨bx ++ [r0,r1,r2,Nb N F,Wx 9 0 0 (mkD 5 (cB.cBs w.ks)) (mkD 3 (w.ls.map lnkD)),fbox N F w],bx.length + 3,false⟩)) := fun r0 r1 r2 => by
  have e : (bx ++ [r0,r1,r2]).length = bx.length + 3 := by simp
  have h := es (fof_f (bx := bx ++ [r0,r1,r2]) (k := 9) (n := 0) (a := 0) o1 o2 (mkD_one 5 (cB.cBs w.ks)) (mkD_one 3 (w.ls.map lnkD)) (fun bx => clone5_ev hkl bx) fun bx => clone3_ev hll bx)
  have e2 : P2 (bx ++ [r0,r1,r2]) = P5 bx := congrArg (fun m => PV.ptr (m + 2) 0) e
  rw [e,e2,List.append_assoc] at h
  exact h
 have c1 := mkD_one 5 (cB.cBs w.ks)
 have c2 := mkD_one 3 (w.ls.map lnkD)
 by_cases hk : w.ks = []
 ·rw [folds_nil hk,resW,hk]
  have hfb : fbox N F w = [.dat N,.dat F,.dat .nil,mkS 3 (w.ls.map lnkD)] := by rw [fbox,hk]; rfl
  rw [hfb] at ho
  refine es (fFold_empty o1 o2 c1 c2 hb ho (es (fFold_stop rfl rfl rfl rfl rfl ?_ (nil_step (N := N) (F := F) (Y := mkS 3 (w.ls.map lnkD)) (by simp) ?_))))
  ·cases w.ls.map lnkD <;> rfl
  ·rw [gar (by omega),show bx.length + 5 - bx.length = 5 by omega]; rfl
 ·have hloop := fold_loop (bx := bx) (z0 := (Nb N F)) (z1 := E6) (z2 := (Wx 9 0 0 (mkD 5 (cB.cBs w.ks)) (mkD 3 (w.ls.map lnkD)))) (z3 := (Nb N F)) (z4 := (Wx 9 0 0 (mkD 5 (cB.cBs w.ks)) (mkD 3 (w.ls.map lnkD)))) hG h o1 o2 rfl rfl rfl rfl rfl 100 w hw hk (by have := hw.lens; omega)
  have hwf := folds_inv hG 100 hw
  have hkf := folds_ne hG 100 hw hk
  generalize foldsW n 100 w = wf at *
  have hlf := web_ls hwf hG hkf
  rw [fbox_ne hkf hlf] at hloop
  have hFB : FB (bx ++ [Nb N F,E6,Wx 9 0 0 (mkD 5 (cB.cBs w.ks)) (mkD 3 (w.ls.map lnkD)),Nb N F,Wx 9 0 0 (mkD 5 (cB.cBs w.ks)) (mkD 3 (w.ls.map lnkD)),[.dat N,.dat F,.own true 5 (cB.cBs wf.ks),.own true 3 (wf.ls.map lnkD)]]) (bx.length + 5) N F wf :=
   ⟨by simp,by rw [gar (by omega),show bx.length + 5 - bx.length = 5 by omega]; rfl,o1,o2⟩
  obtain ⟨c,hwb⟩ := web_ev hwf hG hkf hFB
  rw [List.set_append_right _ _ (by omega),show bx.length + 5 - bx.length = 5 by omega] at hwb
  have hwb : ev cfg (.call 30 [P5 bx] (bx ++ [Nb N F,E6,Wx 9 0 0 (mkD 5 (cB.cBs w.ks)) (mkD 3 (w.ls.map lnkD)),Nb N F,Wx 9 0 0 (mkD 5 (cB.cBs w.ks)) (mkD 3 (w.ls.map lnkD)),[.dat N,.dat F,.own true 5 (cB.cBs wf.ks),.own true 3 (wf.ls.map lnkD)]])) =
    some (.ret (Wq 9 0 0 (mkD 5 (cB.cBs wf.ks)) (mkD 3 (wf.ls.map lnkD))) (some ⟨bx ++ [Nb N F,E6,Wx 9 0 0 (mkD 5 (cB.cBs w.ks)) (mkD 3 (w.ls.map lnkD)),Nb N F,Wx 9 0 0 (mkD 5 (cB.cBs w.ks)) (mkD 3 (w.ls.map lnkD)),c],bx.length + 5,false⟩)) := hwb
  have hg := gateW_ev hFB.lt hFB.get (q := 0) (by cases hq : wf.ks with | nil => exact absurd hq hkf | cons => simp)
  have n0 : (((cB.cBs wf.ks).length : Int) == 0) = false := by
   rw [cBs_len,beq_eq_false_iff_ne]
   cases hq : wf.ks with
   | nil => exact absurd hq hkf
   | cons => simp; omega
  have hweb : pB (.mk 9 0 0 wf.ks wf.ls) = Wq 9 0 0 (mkD 5 (cB.cBs wf.ks)) (mkD 3 (wf.ls.map lnkD)) := rfl
  have hg0 : ∀ b bs,wf.ks = b :: bs -> gateW wf.ks 0 = (b.kd == 8) := fun b bs e => gate_iff (i := 0) (by rw [e]; rfl)
  match hq : wf.ks,hkf with
  | [b],_ =>
   have n1 : (((cB.cBs wf.ks).length : Int) == 1) = true := by rw [hq]; rfl
   rw [hg0 b [] hq] at hg
   rw [resW,hq]
   simp only
   by_cases hb8 : (b.kd == 8) = true
   ·rw [hb8] at hg
    rw [if_neg (by rw [hb8]; simp)]
    rw [<- hq,hweb]
    exact es (fFold_gate o1 o2 c1 c2 hb ho hloop n0 n1 hg hwb (mkD_one 5 _) (mkD_one 3 _))
   ·rw [Bool.not_eq_true] at hb8
    rw [hb8] at hg
    by_cases h2 : (wf.ls.length == 2) = true
    ·rw [if_pos (by rw [hb8,h2]; rfl)]
     have hr : (cB.cBs wf.ks)[0]? = some (cB b) := by rw [hq]; rfl
     have n2 : (((wf.ls.map lnkD).length : Int) == 2) = true := by
      rw [List.length_map]; simp at h2 ⊢; omega
     obtain ⟨k,nn,a,ks,ls⟩ := b
     exact es (fFold_one o1 o2 c1 c2 hb ho hloop n0 n1 hg n2 hr (mkD_one 5 _) (mkD_one 3 _))
    ·rw [Bool.not_eq_true] at h2
     rw [if_neg (by rw [h2]; simp)]
     have n2 : (((wf.ls.map lnkD).length : Int) == 2) = false := by
      rw [List.length_map]; simp at h2 ⊢; omega
     rw [<- hq,hweb]
     exact es (fFold_links o1 o2 c1 c2 hb ho hloop n0 n1 hg n2 hwb (mkD_one 5 _) (mkD_one 3 _))
  | b :: b' :: bs,_ =>
   have n1 : (((cB.cBs wf.ks).length : Int) == 1) = false := by
    rw [cBs_len,hq,beq_eq_false_iff_ne]; simp; omega
   rw [resW,hq]
   simp only
   rw [<- hq,hweb]
   exact es (fFold_many o1 o2 c1 c2 hb ho hloop n0 n1 hwb (mkD_one 5 _) (mkD_one 3 _))
end
theorem i64_s {x : Int} (h : -1000 <= x /\ x <= 1000) : i64 x := by
 unfold i64; omega
def tz : Trm := .mk 0 0 []
def tyes : Trm := .mk 10 0 [.mk 2 0 [],.mk 2 0 []]
def nalt : Nt := ⟨[⟨1,0,tz⟩,⟨5,0,tz⟩,⟨3,0,tz⟩,⟨5,0,tz⟩,⟨2,0,tz⟩],[⟨0,1,false,tz⟩,⟨1,2,false,tyes⟩,⟨1,3,true,tz⟩,⟨2,3,false,tz⟩,⟨3,4,false,tz⟩]⟩
def balt : Blk := .mk 5 1 0 [.mk 2 2 0 [] [],.mk 1 0 0 [] []] []
theorem tz_is : IsT tz 0 0 .nil := by
 rw [tz,IsT]
 exact ⟨rfl,rfl,i64_s (by omega),i64_s (by omega),[],⟨0,rfl,by simp,rfl⟩,by rw [IsT.IsTs],by simp⟩
theorem leaf_is : IsT (.mk 2 0 []) 2 0 .nil := by
 rw [IsT]
 exact ⟨rfl,rfl,i64_s (by omega),i64_s (by omega),[],⟨0,rfl,by simp,rfl⟩,by rw [IsT.IsTs],by simp⟩
theorem tyes_is : IsT tyes 10 0 (.sl 3 [[dI 2,dI 0,.nil],[dI 2,dI 0,.nil]]) := by
 rw [tyes,IsT]
 refine ⟨rfl,rfl,i64_s (by omega),i64_s (by omega),_,⟨3,rfl,by simp,rfl⟩,?_,by simp⟩
 rw [IsT.IsTs]
 refine ⟨_,_,_,_,rfl,leaf_is,?_⟩
 rw [IsT.IsTs]
 exact ⟨_,_,_,_,rfl,leaf_is,by rw [IsT.IsTs]⟩
theorem nalt_is : IsN nalt altN altF := by
 refine ⟨_,_,⟨5,rfl,by simp,rfl⟩,⟨rfl,fun i x hx => ?_⟩,by simp [nalt],⟨6,rfl,by simp,rfl⟩,⟨rfl,fun i x hx => ?_⟩,by simp [nalt]⟩
 ·match i,hx with
  | 0,hx => obtain rfl := sij hx; exact ⟨_,rfl,i64_s (by show (-1000 : Int) <= 1 /\ (1 : Int) <= 1000; omega),i64_s (by show (-1000 : Int) <= 0 /\ (0 : Int) <= 1000; omega),_,_,_,rfl,tz_is⟩
  | 1,hx => obtain rfl := sij hx; exact ⟨_,rfl,i64_s (by show (-1000 : Int) <= 5 /\ (5 : Int) <= 1000; omega),i64_s (by show (-1000 : Int) <= 0 /\ (0 : Int) <= 1000; omega),_,_,_,rfl,tz_is⟩
  | 2,hx => obtain rfl := sij hx; exact ⟨_,rfl,i64_s (by show (-1000 : Int) <= 3 /\ (3 : Int) <= 1000; omega),i64_s (by show (-1000 : Int) <= 0 /\ (0 : Int) <= 1000; omega),_,_,_,rfl,tz_is⟩
  | 3,hx => obtain rfl := sij hx; exact ⟨_,rfl,i64_s (by show (-1000 : Int) <= 5 /\ (5 : Int) <= 1000; omega),i64_s (by show (-1000 : Int) <= 0 /\ (0 : Int) <= 1000; omega),_,_,_,rfl,tz_is⟩
  | 4,hx => obtain rfl := sij hx; exact ⟨_,rfl,i64_s (by show (-1000 : Int) <= 2 /\ (2 : Int) <= 1000; omega),i64_s (by show (-1000 : Int) <= 0 /\ (0 : Int) <= 1000; omega),_,_,_,rfl,tz_is⟩
  | i + 5,hx => simp [nalt] at hx
 ·match i,hx with
  | 0,hx => obtain rfl := sij hx; exact ⟨_,rfl,i64_s (by show (-1000 : Int) <= 0 /\ (0 : Int) <= 1000; omega),i64_s (by show (-1000 : Int) <= 1 /\ (1 : Int) <= 1000; omega),_,_,_,rfl,tz_is⟩
  | 1,hx => obtain rfl := sij hx; exact ⟨_,rfl,i64_s (by show (-1000 : Int) <= 1 /\ (1 : Int) <= 1000; omega),i64_s (by show (-1000 : Int) <= 2 /\ (2 : Int) <= 1000; omega),_,_,_,rfl,tyes_is⟩
  | 2,hx => obtain rfl := sij hx; exact ⟨_,rfl,i64_s (by show (-1000 : Int) <= 1 /\ (1 : Int) <= 1000; omega),i64_s (by show (-1000 : Int) <= 3 /\ (3 : Int) <= 1000; omega),_,_,_,rfl,tz_is⟩
  | 3,hx => obtain rfl := sij hx; exact ⟨_,rfl,i64_s (by show (-1000 : Int) <= 2 /\ (2 : Int) <= 1000; omega),i64_s (by show (-1000 : Int) <= 3 /\ (3 : Int) <= 1000; omega),_,_,_,rfl,tz_is⟩
  | 4,hx => obtain rfl := sij hx; exact ⟨_,rfl,i64_s (by show (-1000 : Int) <= 3 /\ (3 : Int) <= 1000; omega),i64_s (by show (-1000 : Int) <= 4 /\ (4 : Int) <= 1000; omega),_,_,_,rfl,tz_is⟩
  | i + 5,hx => simp [nalt] at hx
theorem check_yes : checkT tyes = (2,0) := by
 first | rfl | decide | simp [checkT,tyes]
theorem nalt_ok : OkN nalt := by
 have e01 : Edge nalt 0 1 := ⟨_,mcs,rfl,rfl⟩
 have e12 : Edge nalt 1 2 := ⟨⟨1,2,false,tyes⟩,by simp [nalt],rfl,rfl⟩
 have e13 : Edge nalt 1 3 := ⟨⟨1,3,true,tz⟩,by simp [nalt],rfl,rfl⟩
 have e23 : Edge nalt 2 3 := ⟨⟨2,3,false,tz⟩,by simp [nalt],rfl,rfl⟩
 have e34 : Edge nalt 3 4 := ⟨⟨3,4,false,tz⟩,by simp [nalt],rfl,rfl⟩
 have f0 : Rch (EdgeB nalt false) 0 0 := .refl
 have f1 := f0.step (c := 1) (by simpa [EdgeB] using e01)
 have f2 := f1.step (c := 2) (by simpa [EdgeB] using e12)
 have f3 := f1.step (c := 3) (by simpa [EdgeB] using e13)
 have f4 := f3.step (c := 4) (by simpa [EdgeB] using e34)
 have g4 : Rch (EdgeB nalt true) 4 4 := .refl
 have g3 := g4.step (c := 3) (by simpa [EdgeB] using e34)
 have g2 := g3.step (c := 2) (by simpa [EdgeB] using e23)
 have g1 := g3.step (c := 1) (by simpa [EdgeB] using e13)
 have g0 := g1.step (c := 0) (by simpa [EdgeB] using e01)
 have hs : startN nalt = 0 := rfl
 have he : endN nalt = 4 := rfl
 have h2 : ofT tyes 2 = true := by rw [ofT,check_yes]; rfl
 refine ⟨by simp [nalt],by simp [nalt],fun x hx => ?_,fun f hf => ?_,fun i hi => ?_,by rw [hs]; omega,by rw [he]; omega,fun i hi => ?_⟩
 ·simp only [nalt,List.mem_cons,List.not_mem_nil,or_false] at hx
  rcases hx with rfl | rfl | rfl | rfl | rfl <;> rfl
 ·have l1 : leadsN ofT nalt ⟨1,2,false,tyes⟩ = true := by
   show ((true && true && true && (if kindN nalt 1 ≠ 5 ∨ (outsN nalt 1).length < 2 then _ else if false = true then _ else ofT tyes 2)) = true)
   rw [if_neg (by decide),if_neg (by decide),h2]; rfl
  simp only [nalt,List.mem_cons,List.not_mem_nil,or_false] at hf
  rcases hf with rfl | rfl | rfl | rfl | rfl
  ·rfl
  ·exact l1
  ·rfl
  ·rfl
  ·rfl
 ·have hi : i < 5 := hi
  match i,hi with
  | 0,_ => rfl
  | 1,_ => rfl
  | 2,_ => rfl
  | 3,_ => rfl
  | 4,_ => rfl
 ·rw [hs,he]
  have hi : i < 5 := hi
  match i,hi with
  | 0,_ => exact ⟨f0,g0⟩
  | 1,_ => exact ⟨f1,g1⟩
  | 2,_ => exact ⟨f2,g2⟩
  | 3,_ => exact ⟨f3,g3⟩
  | 4,_ => exact ⟨f4,g4⟩
def walt : Wb := ⟨[balt],[(-1,0,0),(0,-1,4)]⟩
theorem nalt_next : nextW nalt (beginW nalt) = (walt,2) := by rfl
theorem walt_next : nextW nalt walt = (walt,0) := by rfl
theorem nalt_fold : foldN nalt = balt := by
 have h : foldsW nalt 100 (beginW nalt) = walt := by
  show foldsW nalt 99 (nextW nalt (beginW nalt)).1 = walt
  rw [nalt_next]
  exact folds_stop (by rw [walt_next]) (by rw [walt_next]) 99
 rw [foldN,h]; rfl
theorem nalt_foldev (bx : List Box) : ev cfg (.call 9 [Nq altN altF] bx) = Rq (.tup [pB balt,I 0]) := by
 have hz : ∀ t ∈ termsN nalt,sizeT t <= 1000000 := by
  intro t ht
  simp only [termsN,nalt,List.map_cons,List.map_nil,List.cons_append,List.nil_append,List.mem_cons,List.not_mem_nil,or_false] at ht
  rcases ht with rfl | rfl | rfl | rfl | rfl | rfl | rfl | rfl | rfl | rfl <;> simp [tz,tyes,sizeT,sizeT.go]
 have hf := (fold_ev nalt_is (by simp [nalt]) (by simp [nalt]) hz bx).1 nalt_ok
 rw [nalt_fold] at hf
 exact hf
theorem text_k1 (b0 b1 b2 b3 : Box) : evN cfg 90 (.call 26 [Wq 5 1 0 (mkD 5 (cB.cBs [.mk 2 2 0 [] [],.mk 1 0 0 [] []])) (mkD 3 (([] : List Lk).map lnkD))] [b0,b1,b2,b3]) = Rq (.tup [S ⟨#[40,97,108,116,58,49,32,50,32,45,41]⟩,I 0]) := by kernel_rfl
theorem malt_ev1 (c0 : Box) : ev cfg (.call 8 [] [c0]) = Rq (B true) :=
 es (malt_f1 nalt_foldev (mkD_one 5 _) (mkD_one 3 _) fun b0 b1 b2 b3 => ev_of cfg (text_k1 b0 b1 b2 b3))
theorem text_k2 (b0 b1 b2 b3 b4 : Box) : evN cfg 90 (.call 26 [Wq 5 1 0 (mkD 5 (cB.cBs [.mk 2 2 0 [] [],.mk 1 0 0 [] []])) (mkD 3 (([] : List Lk).map lnkD))] [b0,b1,b2,b3,b4]) = Rq (.tup [S ⟨#[40,97,108,116,58,49,32,50,32,45,41]⟩,I 0]) := by kernel_rfl
theorem malt_ev2 (c0 c1 : Box) : ev cfg (.call 8 [] [c0,c1]) = Rq (B true) :=
 es (malt_f2 nalt_foldev (mkD_one 5 _) (mkD_one 3 _) fun b0 b1 b2 b3 b4 => ev_of cfg (text_k2 b0 b1 b2 b3 b4))
section
variable {n : Nt}
def isB' (b : Blk) : Prop := match b with
 | .mk k n a ks ls => IsB (.mk k n a ks ls) k n a (mkD 5 (cB.cBs ks)) (mkD 3 (ls.map lnkD))
theorem isBs_in : ∀ {bs : List Blk},(∀ b ∈ bs,isB' b) -> IsB.IsBs bs (cB.cBs bs)
 | [],_ => by rw [IsB.IsBs]; rfl
 | b :: bs,h => by
  have h1 := h b mcs
  have h2 := isBs_in (bs := bs) fun c hc => h c (mcm _ hc)
  obtain ⟨k,n,a,ks,ls⟩ := b
  rw [IsB.IsBs]
  exact ⟨k,n,a,_,_,cB.cBs bs,rfl,h1,h2⟩
theorem isB_mk {k n a : Int} {ks : List Blk} {ls : List Lk} (h1 : i64 k) (h2 : i64 n) (h3 : i64 a) (hk : ∀ b ∈ ks,isB' b) (l1 : ks.length <= 1000) (l2 : ls.length <= 1000) (hl : ∀ x ∈ ls,i64 x.1 /\ i64 x.2.1 /\ i64 x.2.2) : isB' (.mk k n a ks ls) := by
 show IsB _ _ _ _ _ _
 rw [IsB]
 exact ⟨rfl,rfl,rfl,h1,h2,h3,cB.cBs ks,mkD_isS 5 _,isBs_in hk,by omega,mkD_isS 3 _,by omega,hl⟩
theorem okK_is : ∀ (b : Blk),okK b -> szB b <= 1000 -> isB' b
 | .mk k n a ks ls,h,hs => by
  rw [okK] at h
  obtain ⟨hk,hn,ha,rfl,hks⟩ := h
  rw [szB] at hs
  have := szBs_len (xs := ks)
  exact isB_mk (i64_s (by omega)) (i64_s (by omega)) (i64_s (by omega)) (go ks hks (by omega)) (by omega) (by simp) (by simp)
where
 go : ∀ (bs : List Blk),okK.okKs bs -> szB.szBs bs <= 1000 -> ∀ b ∈ bs,isB' b
 | [],_,_ => by simp
 | b :: bs,h,hs => by
  rw [okK.okKs] at h
  rw [szB.szBs] at hs
  have h1 := okK_is b h.1 (by omega)
  have h2 := go bs h.2 (by omega)
  intro c hc
  rcases List.mem_cons.1 hc with rfl | hc
  ·exact h1
  ·exact h2 c hc
theorem okK_ok : ∀ (b : Blk),okK b -> szB b <= 100 -> okB b
 | .mk k n a ks ls,h,hs => by
  rw [okK] at h
  obtain ⟨hk,hn,ha,rfl,hks⟩ := h
  rw [szB] at hs
  have := szBs_len (xs := ks)
  rw [okB]
  exact ⟨by omega,by simp,go ks hks (by omega)⟩
where
 go : ∀ (bs : List Blk),okK.okKs bs -> szB.szBs bs <= 100 -> okB.go bs
 | [],_,_ => by rw [okB.go]; trivial
 | b :: bs,h,hs => by
  rw [okK.okKs] at h
  rw [szB.szBs] at hs
  rw [okB.go]
  exact ⟨okK_ok b h.1 (by omega),go bs h.2 (by omega)⟩
theorem web_kids {w : Wb} (hw : InvW n w) : ∀ b ∈ w.ks,okK b /\ szB b <= 64 := by
 intro b hb
 obtain ⟨i,hi⟩ := List.getElem?_of_mem hb
 refine ⟨(hw.kid i b hi).ok,?_⟩
 have h3 := set_size (c := emptyB) hi
 have h4 := hw.size
 have h7 := sizeAt_get hi
 have h8 := drop_size (ks := w.ks) (gone := fun x => x == i) (L := [i]) (by simp) (by simp)
 simp [h7] at h8
 omega
theorem web_is {w : Wb} (hn : n.flows.length <= 100) (hw : InvW n w) : isB' (.mk 9 0 0 w.ks w.ls) := by
 have hl := hw.lens
 refine isB_mk (i64_s (by omega)) (i64_s (by omega)) (i64_s (by omega)) (fun b hb => okK_is b (web_kids hw b hb).1 (by have := (web_kids hw b hb).2; omega)) (by omega) (by omega) fun x hx => ?_
 have := hw.rng x hx
 exact ⟨i64_s (by omega),i64_s (by omega),i64_s (by omega)⟩
theorem oks_in : ∀ {bs : List Blk},(∀ b ∈ bs,okB b) -> okB.go bs
 | [],_ => by rw [okB.go]; trivial
 | b :: bs,h => by rw [okB.go]; exact ⟨h b mcs,oks_in fun c hc => h c (mcm _ hc)⟩
theorem web_ok {w : Wb} (hw : InvW n w) : okB (.mk 9 0 0 w.ks w.ls) := by
 have hl := hw.lens
 rw [okB]
 exact ⟨by omega,by omega,oks_in fun b hb => okK_ok b (web_kids hw b hb).1 (by have := (web_kids hw b hb).2; omega)⟩
theorem okB_okL : ∀ b,okB b -> okL b
 | .mk k n a ks ls,h => by
  rw [okB] at h
  rw [okL]
  exact ⟨by omega,go ks h.2.2⟩
where
 go : ∀ bs,okB.go bs -> okL.go bs
 | [],_ => by rw [okL.go]; trivial
 | b :: bs,h => by
  rw [okB.go] at h
  rw [okL.go]
  exact ⟨okB_okL b h.1,go bs h.2⟩
end
end Go.Proofs.YtifckjhggamefaaGreatDoor
