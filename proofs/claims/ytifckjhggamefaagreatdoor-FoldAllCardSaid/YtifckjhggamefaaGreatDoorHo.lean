/- What the blocks' functions answer: the conversion, and both texts with what is wrong. No condition. -/
import Derived.Test.YtifckjhggamefaaGreatDoorHn
import Derived.Test.YtifckjhggamefaaGreatDoorHg
set_option linter.unusedSimpArgs false
set_option linter.unusedVariables false
set_option linter.unusedSectionVars false
namespace Go.Proofs.YtifckjhggamefaaGreatDoor
open Go Go.Vx
set_option maxRecDepth 10000
set_option maxHeartbeats 1000000
theorem mkD_is (k : Nat) (xs : List (List D)) : IsS k xs (mkD k xs) := by
 cases xs with
 | nil => exact isS_nil k
 | cons => exact isS_sl k _
def longB (b : Blk) : Bool := decide (deepB b > 24) || decide (sizeB b > 96)
theorem long_ev (b : Blk) {k n a : Int} {K L : D} (h : IsB b k n a K L) (hz : sizeB b <= 1000000) (bx : List Box) : ev cfg (.call 42 [Wq k n a K L] bx) = Rq (B (longB b)) := by
 obtain ⟨⟨_,hK⟩,_,hL⟩ := isB_K h
 exact es (f33 hK hL (deep_ev b h hz) (size_ev b h hz))
set_option maxHeartbeats 4000000
section
variable {bx : List Box} {nr fr : List (List D)} {N F K : D} {i : Nat} {k a op n m f t : Int} {e : Bool} {res : Bool × Int}
theorem large_r1 (hN : IsS 5 nr N) (hF : Oq F) (hget : nr[i]? = some [dI k,dI a,dI op,dI n,K]) (hlt : i < nr.length) (hmax : nr.length < 9223372036854775808) (hK : Oq K)
  (hcall : ∀ c : Box,ev cfg (.call 25 [Tq op n K,P1 bx,I 1] (bx ++ [Nb N F,[I m],c])) = some (.ret (B res.1) (some ⟨bx ++ [Nb N F,[I res.2],c],bx.length + 1,false⟩))) :
  Jq (.loop 7 5 (qs bx (sh7_5 (P0 bx) (P1 bx) (.dat N) (I nr.length) (I i)) [Nb N F,[I m]])) =
   if res.1 = true then some (.loop .ret (qs bx (se7_5 (P0 bx) (B true) (P1 bx)) [Nb N F,[I res.2]]))
   else ev cfg (.loop 7 5 (qs bx (sh7_5 (P0 bx) (P1 bx) (.dat N) (I nr.length) (I ((i + 1 : Nat) : Int))) [Nb N F,[I res.2]])) := by
 obtain ⟨w,h1,h2,h3⟩ := hN
 obtain rfl := isS_w h2 hget
 cases hres : res.1 <;> simp (maxSteps := 2000000) only [go_sem,seval,h1,h3,hF,hK,nat_lt hlt,nat_neg,tnc,hget,hcall,hres,nat_succ hlt hmax]
theorem large_e1 (hN : Oq N) (hF : Oq F) {len : Nat} (hge : len <= i) :
  Jq (.loop 7 5 (qs bx (sh7_5 (P0 bx) (P1 bx) (.dat N) (I len) (I i)) [Nb N F,[I m]])) =
   some (.loop (.exit 0) (qs bx (se7_5 (P0 bx) .dead (P1 bx)) [Nb N F,[I m]])) := by
 simp (maxSteps := 2000000) only [go_sem,seval,hN,hF,nat_ge hge]
theorem large_r2 (hN : Oq N) (hF : IsS 6 fr F) (hget : fr[i]? = some [dI f,dI t,.lit (.bool e),dI op,dI n,K]) (hlt : i < fr.length) (hmax : fr.length < 9223372036854775808) (hK : Oq K)
  (hcall : ∀ c : Box,ev cfg (.call 25 [Tq op n K,P1 bx,I 1] (bx ++ [Nb N F,[I m],c])) = some (.ret (B res.1) (some ⟨bx ++ [Nb N F,[I res.2],c],bx.length + 1,false⟩))) :
  Jq (.loop 7 11 (qs bx (sh7_11 (P1 bx) (.dat F) (I fr.length) (I i)) [Nb N F,[I m]])) =
   if res.1 = true then some (.loop .ret (qs bx (se7_11 (B true)) [Nb N F,[I res.2]]))
   else ev cfg (.loop 7 11 (qs bx (sh7_11 (P1 bx) (.dat F) (I fr.length) (I ((i + 1 : Nat) : Int))) [Nb N F,[I res.2]])) := by
 obtain ⟨w,h1,h2,h3⟩ := hF
 obtain rfl := isS_w h2 hget
 cases hres : res.1 <;> simp (maxSteps := 2000000) only [go_sem,seval,h1,h3,hN,hK,nat_lt hlt,nat_neg,tnc,hget,hcall,hres,nat_succ hlt hmax]
theorem large_e2 (hN : Oq N) (hF : Oq F) {len : Nat} (hge : len <= i) :
  Jq (.loop 7 11 (qs bx (sh7_11 (P1 bx) (.dat F) (I len) (I i)) [Nb N F,[I m]])) =
   some (.loop (.exit 2) (qs bx (se7_11 .dead) [Nb N F,[I m]])) := by
 simp (maxSteps := 2000000) only [go_sem,seval,hN,hF,nat_ge hge]
end
def ofT (t : Trm) (k : Int) : Bool := (checkT t).2 == 0 && (checkT t).1 == k
def natR (ks : List Nat) : List (List D) := ks.map fun (k : Nat) => [dI ((k : Nat) : Int)]
theorem none_ev (t : Trm) {op n : Int} {K : D} (h : IsT t op n K) (bx : List Box) : ev cfg (.call 134 [Tq op n K] bx) = Rq (B (noneT t)) := by
 obtain ⟨op',n',ks⟩ := t
 rw [IsT] at h
 obtain ⟨rfl,rfl,_,_,rows,hK,hks,_⟩ := h
 rw [es (none_r hK),isTs_len hks]
 have e : (op == 0 && (n == 0 && (ks.length : Int) == 0)) = noneT (.mk op n ks) := by
  rw [noneT,<- Bool.and_assoc]
  congr 1
  cases ks with
  | nil => rfl
  | cons b bs =>
   have : (((b :: bs).length : Int) == 0) = false := by rw [beq_eq_false_iff_ne]; simp; omega
   rw [this]; rfl
 rw [e]
theorem of_ev (t : Trm) {op n : Int} {K : D} (h : IsT t op n K) (hz : sizeT t <= 1000000) (k : Int) (bx : List Box) : ev cfg (.call 133 [Tq op n K,I k] bx) = Rq (B (ofT t k)) :=
 es (of_r (isT_one h) fun bx => check_ev t h hz bx)
theorem zero_is : IsT (.mk 0 0 []) 0 0 .nil := by
 rw [IsT]
 exact ⟨rfl,rfl,⟨by omega,by omega⟩,⟨by omega,by omega⟩,[],mkD_is 3 [],rfl,by decide⟩
theorem right_ev (x : Nd) {op n : Int} {K : D} (h : IsT x.t op n K) (hz : sizeT x.t <= 1000000) (bx : List Box) : ev cfg (.call 109 [.agg [I x.k,I x.a,I op,I n,.dat K]] bx) = Rq (B (rightN ofT x)) := by
 obtain ⟨k,a,t⟩ := x
 simp only at h hz ⊢
 have hn := fun bx : List Box => none_ev t h bx
 have ho := fun bx : List Box => of_ev t h hz 1 bx
 by_cases h4 : k = 4
 ·subst h4
  rw [rightN,if_pos rfl]
  simp only
  cases hb : ofT t 1 with
  | false =>
   rw [hb] at ho
   exact es (right_4n (isT_one h) ho)
  | true =>
   rw [hb] at ho
   rw [es (right_4y (isT_one h) ho fun bx => none_ev _ zero_is bx)]
   rfl
 ·rw [rightN,if_neg h4]
  simp only
  by_cases h3 : k = 3
  ·subst h3
   rw [es (right_3 (isT_one h) hn)]
   simp only [most,if_true,Bool.and_assoc]
   all_goals rfl
  ·by_cases h8 : k = 8
   ·subst h8
    rw [es (right_8 (isT_one h) hn)]
    simp only [most,if_true,Bool.and_assoc]
    all_goals rfl
   ·rw [es (right_o (isT_one h) (by simpa using h4) (by simpa using h3) (by simpa using h8) hn)]
    simp only [most,if_neg h3,if_neg h8,Bool.and_assoc]
    all_goals rfl
theorem isN_one {n : Nt} {N F : D} (h : IsN n N F) : Oq N /\ Oq F := by
 obtain ⟨nr,fr,⟨_,_,_,h1⟩,_,_,⟨_,_,_,h2⟩,_⟩ := h
 exact ⟨h1,h2⟩
theorem natR_app (xs ys : List Nat) : natR (xs ++ ys) = natR xs ++ natR ys := by simp [natR]
theorem natR_len (xs : List Nat) : (natR xs).length = xs.length := by simp [natR]
theorem flows_ev {n : Nt} {N F : D} {g : FuncId} {l : Nat} (p : Fl -> Bool) (h : IsN n N F) (hsz : n.flows.length <= 1000000) {bx : List Box} (hl : l < bx.length)
  (hcall : ∀ (f : Fl) op m K,IsT f.c op m K -> ∀ r : List Box,ev cfg (.call g [.agg [I f.fr,I f.to,B f.els,I op,I m,.dat K],.ptr l 0] (bx ++ r)) = Rq (B (p f))) :
  ev cfg (.call 123 [Nq N F,.clo g [l]] bx) = Rq (.dat (mkD 1 (natR (idxs p 0 n.flows)))) := by
 have hone := (isN_one h).1
 obtain ⟨nr,fr,hN,_,_,hF,hfr,hmax⟩ := h
 have hlen : fr.length = n.flows.length := hfr.1
 have loop : ∀ (fs : List Fl) (i : Nat) (acc : List Nat),n.flows.drop i = fs -> acc.length <= i -> ∀ c : Box,c.all (cellLt (bx.length + 1)) = true →
   ev cfg (.loop 123 3 (qs bx (sh123_3 (.clo g [l]) (mkS 1 (natR acc)) (.dat F) (I fr.length) (I i)) [c])) = some (.loop (.exit 0) (qs bx (se123_3 (mkS 1 (natR (acc ++ idxs p i fs)))) [c])) := by
  intro fs
  induction fs with
  | nil =>
   intro i acc hd ha c hc
   rw [idxs,List.append_nil]
   exact es (flows_end rfl hl hc (by rw [hlen]; exact drop_nil hd))
  | cons f fs ih =>
   intro i acc hd ha c hc
   obtain ⟨hget,hd',hlt⟩ := drop_cons hd
   obtain ⟨row,hrow,_,_,op,m,K,rfl,hT⟩ := hfr.2 i f hget
   have hc1 := hcall f op m K hT
   have hks : ((natR acc).length + 1) * 8 <= 140737488355328 := by rw [natR_len]; omega
   have e : acc ++ idxs p i (f :: fs) = (if p f = true then acc ++ [i] else acc) ++ idxs p (i + 1) fs := by
    rw [idxs]
    split <;> simp
   rw [e]
   have hacc : (if p f = true then acc ++ [i] else acc).length <= i + 1 := by split <;> (try simp) <;> omega
   have := ih (i + 1) (if p f = true then acc ++ [i] else acc) hd' hacc c hc
   refine es (Eq.trans ?_ this)
   cases acc with
   | nil =>
    refine (flows_round0 hF hl hc hrow (by rw [hlen]; exact hlt) (by rw [hlen]; exact hmax) (isT_one hT) hc1).trans ?_
    cases p f <;> rfl
   | cons a acc =>
    refine (flows_round1 (rs := natR (a :: acc)) hF hl hc hrow (by rw [hlen]; exact hlt) (by rw [hlen]; exact hmax) (isT_one hT) hks hc1).trans ?_
    cases p f
    ·rfl
    ·simp only [if_true,natR_app]; rfl
 refine es (flows_f hone hF hl fun c hc => ?_)
 have := loop n.flows 0 [] rfl (Nat.le_refl _) c hc
 rw [List.nil_append] at this
 exact this
theorem outs_ev {n : Nt} {N F : D} (h : IsN n N F) (hsz : n.flows.length <= 1000000) (i : Int) (bx : List Box) : ev cfg (.call 78 [Nq N F,I i] bx) = Rq (.dat (mkD 1 (natR (outsN n i)))) := by
 refine es (outs_f (isN_one h).1 (isN_one h).2 (mkD_one _ _) fun c => ?_)
 exact flows_ev (fun f => f.fr == i) h hsz (by simp) fun f op m K hT r => es (outs1_f (isT_one hT) (by simp) (by simp))
theorem ins_ev {n : Nt} {N F : D} (h : IsN n N F) (hsz : n.flows.length <= 1000000) (i : Int) (bx : List Box) : ev cfg (.call 82 [Nq N F,I i] bx) = Rq (.dat (mkD 1 (natR (insN n i)))) := by
 refine es (ins_f (isN_one h).1 (isN_one h).2 (mkD_one _ _) fun c => ?_)
 exact flows_ev (fun f => f.to == i) h hsz (by simp) fun f op m K hT r => es (ins1_f (isT_one hT) (by simp) (by simp))
theorem index_ev {n : Nt} {N F : D} (h : IsN n N F) {g : FuncId} (k : Int) (hcall : ∀ (x : Nd) op m K,IsT x.t op m K -> ∀ bx : List Box,ev cfg (.call g [.agg [I x.k,I x.a,I op,I m,.dat K]] bx) = Rq (B (x.k == k))) (bx : List Box) :
  ev cfg (.call 138 [.dat N,.clo g []] bx) = Rq (I (firstK k 0 n.nodes)) := by
 obtain ⟨nr,fr,hN,hnr,hmax,_⟩ := h
 have hlen : nr.length = n.nodes.length := hnr.1
 have loop : ∀ (xs : List Nd) (i : Nat),n.nodes.drop i = xs -> ∃ y : Option Int,firstK k i xs = y.getD (-1) /\ ev cfg (.loop 138 2 (q0 bx (sh138_2 (.dat N) (.clo g []) (I nr.length) (I i)))) = some (match y with
   | some j => .loop .ret (q0 bx (se138_2 (I j)))
   | none => .loop (.exit 0) (q0 bx (se138_2 .dead))) := by
  intro xs
  induction xs with
  | nil =>
   intro i hd
   exact ⟨none,rfl,es (index_end (by rw [hlen]; exact drop_nil hd))⟩
  | cons x xs ih =>
   intro i hd
   obtain ⟨hget,hd',hlt⟩ := drop_cons hd
   obtain ⟨row,hrow,_,_,op,m,K,rfl,hT⟩ := hnr.2 i x hget
   have hr := index_round (bx := bx) hN hrow (by rw [hlen]; exact hlt) (by rw [hlen]; exact hmax) (isT_one hT) (fun bx => hcall x op m K hT bx)
   rw [firstK]
   by_cases hx : x.k = k
   ·rw [if_pos hx]
    rw [show (x.k == k) = true by simpa using hx,if_pos rfl] at hr
    exact ⟨some i,rfl,es hr⟩
   ·rw [if_neg hx]
    rw [show (x.k == k) = false by simpa using hx,if_neg (by decide)] at hr
    obtain ⟨y,h1,h2⟩ := ih (i + 1) hd'
    exact ⟨y,by simpa using h1,es (hr.trans h2)⟩
 obtain ⟨y,h1,h2⟩ := loop n.nodes 0 rfl
 have h1' : firstK k 0 n.nodes = y.getD (-1) := h1
 rw [h1']
 exact es (index_f hN h2)
theorem start_ev {n : Nt} {N F : D} (h : IsN n N F) (bx : List Box) : ev cfg (.call 114 [Nq N F] bx) = Rq (I (startN n)) :=
 es (start_f (isN_one h).1 (isN_one h).2 fun bx => index_ev h 1 (fun x op m K hT bx => es (start1_f (isT_one hT))) bx)
theorem end_ev {n : Nt} {N F : D} (h : IsN n N F) (bx : List Box) : ev cfg (.call 115 [Nq N F] bx) = Rq (I (endN n)) :=
 es (end_f (isN_one h).1 (isN_one h).2 fun bx => index_ev h 2 (fun x op m K hT bx => es (end1_f (isT_one hT))) bx)
theorem lead1_ev {n : Nt} {N F : D} (h : IsN n N F) (q : Int) {bx : List Box} {l : Nat} (hb : bx[l]? = some (Nb N F)) : ev cfg (.call 135 [I q,.ptr l 0] bx) = Rq (B (inN n q)) := by
 obtain ⟨nr,fr,hN,hnr,_⟩ := h
 rw [es (leads1_f hN (gsi.1 hb).1 hb),hnr.1]
 rfl
theorem leads_ev {n : Nt} {N F : D} (h : IsN n N F) (hsz : n.flows.length <= 1000000) (f : Fl) {op m : Int} {K : D} (hT : IsT f.c op m K) (hz : sizeT f.c <= 1000000) (bx : List Box) :
  ev cfg (.call 111 [Nq N F,.agg [I f.fr,I f.to,B f.els,I op,I m,.dat K]] bx) = Rq (B (leadsN ofT n f)) := by
 have h1 := fun c : Box => lead1_ev h f.fr (bx := bx ++ [Nb N F,c]) (l := bx.length) (by simp)
 have h2 := fun c : Box => lead1_ev h f.to (bx := bx ++ [Nb N F,c]) (l := bx.length) (by simp)
 obtain ⟨o1,o2⟩ := isN_one h
 cases c1 : inN n f.fr with
 | false =>
  rw [c1] at h1
  have e : leadsN ofT n f = false := by simp [leadsN,c1]
  rw [e]
  exact es (leads_no1 o1 o2 (isT_one hT) h1)
 | true =>
  rw [c1] at h1
  cases c2 : inN n f.to with
  | false =>
   rw [c2] at h2
   have e : leadsN ofT n f = false := by simp [leadsN,c2]
   rw [e]
   exact es (leads_no2 o1 o2 (isT_one hT) h1 h2 (.inl rfl))
  | true =>
   rw [c2] at h2
   cases c3 : (f.fr == f.to) with
   | true =>
    have e : leadsN ofT n f = false := by simp [leadsN,bne,c3]
    rw [e]
    exact es (leads_no2 o1 o2 (isT_one hT) h1 h2 (.inr c3))
   | false =>
    have hin : 0 <= f.fr /\ f.fr < n.nodes.length := by simpa [inN] using c1
    obtain ⟨p,hp⟩ : ∃ p : Nat,f.fr = p := ⟨f.fr.toNat,by omega⟩
    have hpl : p < n.nodes.length := by omega
    have hh := h
    obtain ⟨nr,fr,hN,hnr,_⟩ := hh
    obtain ⟨row,hrow,_,_,op2,m2,K2,rfl,hT2⟩ := hnr.get hpl
    have hO := fun bx : List Box => outs_ev h hsz f.fr bx
    have hkind : kindN n f.fr = n.nodes[p].k := by
     rw [kindN,if_neg (by omega),hp]
     simp [hpl]
    rw [hp] at h1 c3 hO ⊢
    rw [es (leads_go (e := f.els) (op := op) (n := m) (K := K) hN o2 (isT_one hT) h1 h2 c3 hrow (mkD_is _ _) hO (fun bx => none_ev f.c hT bx) fun bx => of_ev f.c hT hz 2 bx)]
    congr 4
    rw [natR_len]
    have e : leadsN ofT n f = if kindN n f.fr ≠ 5 ∨ (outsN n f.fr).length < 2 then !f.els && noneT f.c else if f.els = true then noneT f.c else ofT f.c 2 := by
     rw [leadsN,c1,c2]
     have : (f.fr != f.to) = true := by rw [bne,hp,c3]; rfl
     rw [this]; rfl
    rw [e,hkind,<- hp]
    congr 1
    simp only [Bool.or_eq_true,bne_iff_ne,ne_eq,dqE]
    refine propext (or_congr Iff.rfl ?_)
    rw [hp]; omega
end Go.Proofs.YtifckjhggamefaaGreatDoor
