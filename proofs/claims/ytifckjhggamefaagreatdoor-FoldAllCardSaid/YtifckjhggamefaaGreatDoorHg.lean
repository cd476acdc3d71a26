/- Rounds of package net's functions: Start, End, leads, places. No condition. -/
import Derived.Test.YtifckjhggamefaaGreatDoorQb
set_option linter.unusedSimpArgs false
set_option linter.unusedVariables false
set_option linter.unusedSectionVars false
namespace Go.Proofs.YtifckjhggamefaaGreatDoor
open Go Go.Vx
set_option maxHeartbeats 4000000
set_option maxRecDepth 10000
section
variable {bx : List Box} {c : Box} {nr : List (List D)} {N F K : D} {i l : Nat} {k a op n : Int} {rs : List (List D)} {v : Bool}
theorem index_round {g : FuncId} (hN : IsS 5 nr N) (hget : nr[i]? = some [dI k,dI a,dI op,dI n,K]) (hlt : i < nr.length) (hmax : nr.length < 9223372036854775808) (hk : Oq K) (hcall : ∀ bx : List Box,ev cfg (.call g [.agg [I k,I a,I op,I n,.dat K]] bx) = Rq (B v)) :
  Jq (.loop 138 2 (q0 bx (sh138_2 (.dat N) (.clo g []) (I nr.length) (I i)))) =
   if v = true then some (.loop .ret (q0 bx (se138_2 (I i))))
   else ev cfg (.loop 138 2 (q0 bx (sh138_2 (.dat N) (.clo g []) (I nr.length) (I ((i + 1 : Nat) : Int))))) := by
 obtain ⟨w,h1,h2,h3⟩ := hN
 obtain rfl := isS_w h2 hget
 cases v <;> simp only [go_sem,seval,h1,h3,hk,nat_lt hlt,nat_neg,tnc,hget,hcall,nat_succ hlt hmax]
theorem index_end {g : FuncId} {m : Nat} (hge : m <= i) :
  Jq (.loop 138 2 (q0 bx (sh138_2 (.dat N) (.clo g []) (I m) (I i)))) = some (.loop (.exit 0) (q0 bx (se138_2 .dead))) := by
 simp only [go_sem,seval,nat_ge hge]
theorem index_f {g : FuncId} {y : Option Int} (hN : IsS 5 nr N) 
  (hloop : ev cfg (.loop 138 2 (q0 bx (sh138_2 (.dat N) (.clo g []) (I nr.length) (I 0)))) = some (match y with
   | some j => .loop .ret (q0 bx (se138_2 (I j)))
   | none => .loop (.exit 0) (q0 bx (se138_2 .dead)))) :
  Jq (.call 138 [.dat N,.clo g []] bx) = Rq (I (y.getD (-1))) := by
 obtain ⟨w,h1,h2,h3⟩ := hN
 cases y <;> simp only [go_sem,seval,h1,h3,hloop]
theorem start1_f (hK : Oq K) : Jq (.call 139 [.agg [I k,I a,I op,I n,.dat K]] bx) = Rq (B (k == 1)) := by
 simp only [go_sem,seval,hK]
theorem end1_f (hK : Oq K) : Jq (.call 140 [.agg [I k,I a,I op,I n,.dat K]] bx) = Rq (B (k == 2)) := by
 simp only [go_sem,seval,hK]
theorem start_f {y : Int} (hN : Oq N) (hF : Oq F) (hc : Cq 138 [.dat N,.clo 139 []] (I y)) :
  Jq (.call 114 [Nq N F] bx) = Rq (I y) := by
 simp only [go_sem,seval,hN,hF,hc]
theorem end_f {y : Int} (hN : Oq N) (hF : Oq F) (hc : Cq 138 [.dat N,.clo 140 []] (I y)) :
  Jq (.call 115 [Nq N F] bx) = Rq (I y) := by
 simp only [go_sem,seval,hN,hF,hc]
theorem leads1_f {q : Int} (hN : IsS 5 nr N) (hl : l < bx.length) (hb : bx[l]? = some (Nb N F)) : Jq (.call 135 [I q,.ptr l 0] bx) = Rq (B (decide (q >= 0) && decide (q < (nr.length : Int)))) := by
 obtain ⟨w,h1,h2,h3⟩ := hN
 cases c1 : decide (q >= 0) <;> simp only [go_sem,seval,h1,h3,hl,hb,c1]
section
variable {f t : Int} {e v2 z : Bool} {p : Nat} {X : D} {ors : List (List D)} {K2 : D} {op2 n2 : Int}
theorem leads_no1 (hN : Oq N) (hF : Oq F) (hK : Oq K) (h1 : ∀ c : Box,ev cfg (.call 135 [I f,P0 bx] (bx ++ [Nb N F,c])) = Rq (B false)) :
  Jq (.call 111 [Nq N F,.agg [I f,I t,B e,I op,I n,.dat K]] bx) = Rq (B false) := by
 simp only [go_sem,seval,hN,hF,hK,h1]
theorem leads_no2 (hN : Oq N) (hF : Oq F) (hK : Oq K) (h1 : ∀ c : Box,ev cfg (.call 135 [I f,P0 bx] (bx ++ [Nb N F,c])) = Rq (B true))
  (h2 : ∀ c : Box,ev cfg (.call 135 [I t,P0 bx] (bx ++ [Nb N F,c])) = Rq (B v2)) (h : v2 = false ∨ (f == t) = true) :
  Jq (.call 111 [Nq N F,.agg [I f,I t,B e,I op,I n,.dat K]] bx) = Rq (B false) := by
 cases v2
 ·simp only [go_sem,seval,hN,hF,hK,h1,h2]
 ·have h' : (f == t) = true := by rcases h with h | h; cases h; exact h
  simp only [go_sem,seval,hN,hF,hK,h1,h2,h']
theorem leads_go {zo : Bool} (hN : IsS 5 nr N) (hF : Oq F) (hK : Oq K) (h1 : ∀ c : Box,ev cfg (.call 135 [I p,P0 bx] (bx ++ [Nb N F,c])) = Rq (B true))
  (h2 : ∀ c : Box,ev cfg (.call 135 [I t,P0 bx] (bx ++ [Nb N F,c])) = Rq (B true)) (h3 : ((p : Int) == t) = false) (hget : nr[p]? = some [dI k,dI a,dI op2,dI n2,K2])
  (hX : IsS 1 ors X) (ho : Cq 78 [Nq N F,I p] (.dat X)) (hn : Cq 134 [Tq op n K] (B z))
  (hof : Cq 133 [Tq op n K,I 2] (B zo)) :
  Jq (.call 111 [Nq N F,.agg [I p,I t,B e,I op,I n,.dat K]] bx) =
   (Rq (B (if ((k != 5) || decide ((ors.length : Int) < 2)) = true then !e && z else if e = true then z else zo))) := by
 obtain ⟨w,g1,g2,g3⟩ := hN
 obtain rfl := isS_w g2 hget
 obtain ⟨w',g1',g2',g3'⟩ := hX
 have hlt : p < nr.length := (gsi.1 hget).1
 cases c1 : (k != 5) <;> cases c2 : decide ((ors.length : Int) < 2) <;> cases e <;> simp only [go_sem,seval,g1,g3,g1',g3',hF,hK,h1,h2,h3,hget,ho,hn,hof,c1,c2,nat_neg,tnc,hlt]
end
theorem places_round0 {g : FuncId} {cap : List Nat} {rule : Int} {m : Nat} (hcap : (cap.all fun l => decide (l < bx.length)) = true) (hlt : i < m) (hmax : m < 9223372036854775808)
  (hcall : ev cfg (.call g (I i :: cap.map fun l => .ptr l 0) bx) = Rq (B v)) :
  Jq (.loop 107 3 (q0 bx (sh107_3 (I rule) (.clo g cap) (.dat .nil) (I m) (I i)))) =
   ev cfg (.loop 107 3 (q0 bx (sh107_3 (I rule) (.clo g cap) ((if v = true then .own true 2 [[dI rule,dI i]] else .dat .nil)) (I m) (I ((i + 1 : Nat) : Int))))) := by
 cases v <;> simp only [go_sem,seval,nat_lt hlt,hcall,hcap,nat_succ hlt hmax]
theorem places_round1 {g : FuncId} {cap : List Nat} {rule : Int} {m : Nat} (hcap : (cap.all fun l => decide (l < bx.length)) = true) (hlt : i < m) (hmax : m < 9223372036854775808) (hks : (rs.length + 1) * 16 <= 140737488355328)
  (hcall : ev cfg (.call g (I i :: cap.map fun l => .ptr l 0) bx) = Rq (B v)) :
  Jq (.loop 107 3 (q0 bx (sh107_3 (I rule) (.clo g cap) (.own true 2 rs) (I m) (I i)))) =
   ev cfg (.loop 107 3 (q0 bx (sh107_3 (I rule) (.clo g cap) ((.own true 2 (if v = true then rs ++ [[dI rule,dI i]] else rs))) (I m) (I ((i + 1 : Nat) : Int))))) := by
 cases v <;> simp only [go_sem,seval,nat_lt hlt,hcall,hcap,hks,nat_succ hlt hmax]
theorem places_end {g : FuncId} {cap : List Nat} {rule : Int} {m : Nat} (hcap : (cap.all fun l => decide (l < bx.length)) = true) (hge : m <= i) :
  Jq (.loop 107 3 (q0 bx (sh107_3 (I rule) (.clo g cap) (mkS 2 rs) (I m) (I i)))) = some (.loop (.exit 0) (q0 bx (se107_3 (mkS 2 rs)))) := by
 cases rs <;> simp only [go_sem,seval,mkS,nat_ge hge,hcap]
theorem places_f {g : FuncId} {cap : List Nat} {rule : Int} {m : Nat} (hcap : (cap.all fun l => decide (l < bx.length)) = true)
  (hloop : ev cfg (.loop 107 3 (q0 bx (sh107_3 (I rule) (.clo g cap) (.dat .nil) (I m) (I 0)))) = some (.loop (.exit 0) (q0 bx (se107_3 (mkS 2 rs))))) :
  Jq (.call 107 [I rule,I m,.clo g cap] bx) = Rq (mkS 2 rs) := by
 cases rs <;> simp only [mkS] at hloop <;> simp only [go_sem,seval,mkS,hcap,hloop]
end
section
variable {bx : List Box} {nr fr ors irs : List (List D)} {N F X Y K K2 : D} {i j p : Nat} {k kd a op n op2 n2 f el ins : Int} {e cat : Bool}
theorem link_round (hN : IsS 5 nr N) (hF : IsS 6 fr F) (hX : IsS 1 ors X) (hget : ors[i]? = some [dI j]) (hj : fr[j]? = some [dI f,dI p,.lit (.bool e),dI op,dI n,K]) (hp : nr[p]? = some [dI k,dI a,dI op2,dI n2,K2]) (hlt : i < ors.length) (hmax : ors.length < 9223372036854775808) (hel : IntKind.wrap .i64 (el + 1) = el + 1) :
  Jq (.loop 137 6 (qs bx (sh137_6 (P0 bx) (.dat X) (I ins) (I kd) (I el) (B cat) (.dat X) (I ors.length) (I i)) [Nb N F])) =
   ev cfg (.loop 137 6 (qs bx (sh137_6 (P0 bx) (.dat X) (I ins) (I kd) (I (if e = true then el + 1 else el)) (B (cat && k == 8)) (.dat X) (I ors.length) (I ((i + 1 : Nat) : Int))) [Nb N F])) := by
 obtain ⟨w,h1,h2,h3⟩ := hN
 obtain rfl := isS_w h2 hp
 obtain ⟨w,g1,g2,g3⟩ := hF
 obtain rfl := isS_w g2 hj
 obtain ⟨w,q1,q2,q3⟩ := hX
 obtain rfl := isS_w q2 hget
 have l1 : j < fr.length := (gsi.1 hj).1
 have l2 : p < nr.length := (gsi.1 hp).1
 cases e <;> cases cat <;> simp only [go_sem,seval,h1,h3,g1,g3,q1,q3,hget,hj,hp,l1,l2,nat_lt hlt,nat_neg,tnc,hel,nat_succ hlt hmax]
theorem link_end {m : Nat} (hN : Oq N) (hF : Oq F) (hX : Oq X) (hge : m <= i) :
  Jq (.loop 137 6 (qs bx (sh137_6 (P0 bx) (.dat X) (I ins) (I kd) (I el) (B cat) (.dat X) (I m) (I i)) [Nb N F])) =
   some (.loop (.exit 0) (qs bx (se137_6 (.dat X) (I ins) (I kd) (I el) (B cat)) [Nb N F])) := by
 simp only [go_sem,seval,hN,hF,hX,nat_ge hge]
theorem link_1 (hN : IsS 5 nr N) (hF : Oq F) (hX : IsS 1 ors X) (hY : IsS 1 irs Y) (hp : nr[p]? = some [dI 1,dI a,dI op2,dI n2,K2])
  (hO : Cq 78 [Nq N F,I p] (.dat X)) (hI : Cq 82 [Nq N F,I p] (.dat Y))
  (hloop : ev cfg (.loop 137 6 (qs bx (sh137_6 (P0 bx) (.dat X) (I irs.length) (I 1) (I 0) (B true) (.dat X) (I ors.length) (I 0)) [Nb N F])) =
   some (.loop (.exit 0) (qs bx (se137_6 (.dat X) (I irs.length) (I 1) (I el) (B cat)) [Nb N F]))) :
  Jq (.call 137 [Nq N F,I p] bx) = Rq (B (((irs.length : Int) == 0) && ((ors.length : Int) == 1))) := by
 obtain ⟨w,h1,h2,h3⟩ := hN
 obtain rfl := isS_w h2 hp
 obtain ⟨w',g1,g2,g3⟩ := hX
 obtain ⟨w'',q1,q2,q3⟩ := hY
 have l2 : p < nr.length := (gsi.1 hp).1
 cases c0 : ((irs.length : Int) == 0) <;> cases c1 : ((ors.length : Int) == 1) <;> simp only [go_sem,seval,h1,h3,g1,g3,q1,q3,hF,hp,l2,hO,hI,hloop,nat_neg,tnc,c0,c1]
theorem link_2 (hN : IsS 5 nr N) (hF : Oq F) (hX : IsS 1 ors X) (hY : IsS 1 irs Y) (hp : nr[p]? = some [dI 2,dI a,dI op2,dI n2,K2])
  (hO : Cq 78 [Nq N F,I p] (.dat X)) (hI : Cq 82 [Nq N F,I p] (.dat Y))
  (hloop : ev cfg (.loop 137 6 (qs bx (sh137_6 (P0 bx) (.dat X) (I irs.length) (I 2) (I 0) (B true) (.dat X) (I ors.length) (I 0)) [Nb N F])) =
   some (.loop (.exit 0) (qs bx (se137_6 (.dat X) (I irs.length) (I 2) (I el) (B cat)) [Nb N F]))) :
  Jq (.call 137 [Nq N F,I p] bx) = Rq (B (((irs.length : Int) == 1) && ((ors.length : Int) == 0))) := by
 obtain ⟨w,h1,h2,h3⟩ := hN
 obtain rfl := isS_w h2 hp
 obtain ⟨w',g1,g2,g3⟩ := hX
 obtain ⟨w'',q1,q2,q3⟩ := hY
 have l2 : p < nr.length := (gsi.1 hp).1
 cases c0 : ((irs.length : Int) == 1) <;> cases c1 : ((ors.length : Int) == 0) <;> simp only [go_sem,seval,h1,h3,g1,g3,q1,q3,hF,hp,l2,hO,hI,hloop,nat_neg,tnc,c0,c1]
end
section
variable {bx : List Box} {nr ors irs : List (List D)} {N F X Y K2 : D} {p : Nat} {a op2 n2 el : Int} {cat : Bool}
theorem link_7 (hN : IsS 5 nr N) (hF : Oq F) (hX : IsS 1 ors X) (hY : IsS 1 irs Y) (hp : nr[p]? = some [dI 7,dI a,dI op2,dI n2,K2])
  (hO : Cq 78 [Nq N F,I p] (.dat X)) (hI : Cq 82 [Nq N F,I p] (.dat Y))
  (hloop : ev cfg (.loop 137 6 (qs bx (sh137_6 (P0 bx) (.dat X) (I irs.length) (I 7) (I 0) (B true) (.dat X) (I ors.length) (I 0)) [Nb N F])) =
   some (.loop (.exit 0) (qs bx (se137_6 (.dat X) (I irs.length) (I 7) (I el) (B cat)) [Nb N F]))) :
  Jq (.call 137 [Nq N F,I p] bx) = Rq (B (((irs.length : Int) == 1) && (decide ((ors.length : Int) > 1) && cat))) := by
 obtain ⟨w,h1,h2,h3⟩ := hN
 obtain rfl := isS_w h2 hp
 obtain ⟨w',g1,g2,g3⟩ := hX
 obtain ⟨w'',q1,q2,q3⟩ := hY
 have l2 : p < nr.length := (gsi.1 hp).1
 cases c0 : ((irs.length : Int) == 1) <;> cases c1 : decide ((ors.length : Int) > 1) <;> simp only [go_sem,seval,h1,h3,g1,g3,q1,q3,hF,hp,l2,hO,hI,hloop,nat_neg,tnc,c0,c1]
theorem link_6 (hN : IsS 5 nr N) (hF : Oq F) (hX : IsS 1 ors X) (hY : IsS 1 irs Y) (hp : nr[p]? = some [dI 6,dI a,dI op2,dI n2,K2])
  (hO : Cq 78 [Nq N F,I p] (.dat X)) (hI : Cq 82 [Nq N F,I p] (.dat Y))
  (hloop : ev cfg (.loop 137 6 (qs bx (sh137_6 (P0 bx) (.dat X) (I irs.length) (I 6) (I 0) (B true) (.dat X) (I ors.length) (I 0)) [Nb N F])) =
   some (.loop (.exit 0) (qs bx (se137_6 (.dat X) (I irs.length) (I 6) (I el) (B cat)) [Nb N F]))) :
  Jq (.call 137 [Nq N F,I p] bx) = Rq (B ((((irs.length : Int) == 1) && decide ((ors.length : Int) > 1)) || (decide ((irs.length : Int) > 1) && ((ors.length : Int) == 1)))) := by
 obtain ⟨w,h1,h2,h3⟩ := hN
 obtain rfl := isS_w h2 hp
 obtain ⟨w',g1,g2,g3⟩ := hX
 obtain ⟨w'',q1,q2,q3⟩ := hY
 have l2 : p < nr.length := (gsi.1 hp).1
 cases c0 : ((irs.length : Int) == 1)
 ·cases c1 : decide ((irs.length : Int) > 1)
  ·simp only [go_sem,seval,h1,h3,g1,g3,q1,q3,hF,hp,l2,hO,hI,hloop,nat_neg,tnc,c0,c1]
  ·cases c2 : ((ors.length : Int) == 1)
   ·simp only [go_sem,seval,h1,h3,g1,g3,q1,q3,hF,hp,l2,hO,hI,hloop,nat_neg,tnc,c0,c1,c2]
   ·simp only [go_sem,seval,h1,h3,g1,g3,q1,q3,hF,hp,l2,hO,hI,hloop,nat_neg,tnc,c0,c1,c2]
 ·cases c1 : decide ((ors.length : Int) > 1)
  ·cases c2 : decide ((irs.length : Int) > 1)
   ·simp only [go_sem,seval,h1,h3,g1,g3,q1,q3,hF,hp,l2,hO,hI,hloop,nat_neg,tnc,c0,c1,c2]
   ·cases c3 : ((ors.length : Int) == 1)
    ·simp only [go_sem,seval,h1,h3,g1,g3,q1,q3,hF,hp,l2,hO,hI,hloop,nat_neg,tnc,c0,c1,c2,c3]
    ·simp only [go_sem,seval,h1,h3,g1,g3,q1,q3,hF,hp,l2,hO,hI,hloop,nat_neg,tnc,c0,c1,c2,c3]
  ·simp only [go_sem,seval,h1,h3,g1,g3,q1,q3,hF,hp,l2,hO,hI,hloop,nat_neg,tnc,c0,c1]
end
section
variable {bx : List Box} {nr ors irs : List (List D)} {N F X Y K2 : D} {p : Nat} {a op2 n2 el : Int} {cat : Bool}
theorem link_5 (hN : IsS 5 nr N) (hF : Oq F) (hX : IsS 1 ors X) (hY : IsS 1 irs Y) (hp : nr[p]? = some [dI 5,dI a,dI op2,dI n2,K2])
  (hO : Cq 78 [Nq N F,I p] (.dat X)) (hI : Cq 82 [Nq N F,I p] (.dat Y))
  (hloop : ev cfg (.loop 137 6 (qs bx (sh137_6 (P0 bx) (.dat X) (I irs.length) (I 5) (I 0) (B true) (.dat X) (I ors.length) (I 0)) [Nb N F])) =
   some (.loop (.exit 0) (qs bx (se137_6 (.dat X) (I irs.length) (I 5) (I el) (B cat)) [Nb N F]))) :
  Jq (.call 137 [Nq N F,I p] bx) = Rq (B ((((irs.length : Int) == 1) && (decide ((ors.length : Int) > 1) && el == 1)) || (decide ((irs.length : Int) > 1) && ((ors.length : Int) == 1)))) := by
 obtain ⟨w,h1,h2,h3⟩ := hN
 obtain rfl := isS_w h2 hp
 obtain ⟨w',g1,g2,g3⟩ := hX
 obtain ⟨w'',q1,q2,q3⟩ := hY
 have l2 : p < nr.length := (gsi.1 hp).1
 cases c0 : ((irs.length : Int) == 1)
 ·cases c1 : decide ((irs.length : Int) > 1)
  ·simp only [go_sem,seval,h1,h3,g1,g3,q1,q3,hF,hp,l2,hO,hI,hloop,nat_neg,tnc,c0,c1]
  ·cases c2 : ((ors.length : Int) == 1)
   ·simp only [go_sem,seval,h1,h3,g1,g3,q1,q3,hF,hp,l2,hO,hI,hloop,nat_neg,tnc,c0,c1,c2]
   ·simp only [go_sem,seval,h1,h3,g1,g3,q1,q3,hF,hp,l2,hO,hI,hloop,nat_neg,tnc,c0,c1,c2]
 ·cases c1 : decide ((ors.length : Int) > 1)
  ·cases c2 : decide ((irs.length : Int) > 1)
   ·simp only [go_sem,seval,h1,h3,g1,g3,q1,q3,hF,hp,l2,hO,hI,hloop,nat_neg,tnc,c0,c1,c2]
   ·cases c3 : ((ors.length : Int) == 1)
    ·simp only [go_sem,seval,h1,h3,g1,g3,q1,q3,hF,hp,l2,hO,hI,hloop,nat_neg,tnc,c0,c1,c2,c3]
    ·simp only [go_sem,seval,h1,h3,g1,g3,q1,q3,hF,hp,l2,hO,hI,hloop,nat_neg,tnc,c0,c1,c2,c3]
  ·cases c2 : (el == 1)
   ·cases c3 : decide ((irs.length : Int) > 1)
    ·simp only [go_sem,seval,h1,h3,g1,g3,q1,q3,hF,hp,l2,hO,hI,hloop,nat_neg,tnc,c0,c1,c2,c3]
    ·cases c4 : ((ors.length : Int) == 1)
     ·simp only [go_sem,seval,h1,h3,g1,g3,q1,q3,hF,hp,l2,hO,hI,hloop,nat_neg,tnc,c0,c1,c2,c3,c4]
     ·simp only [go_sem,seval,h1,h3,g1,g3,q1,q3,hF,hp,l2,hO,hI,hloop,nat_neg,tnc,c0,c1,c2,c3,c4]
   ·simp only [go_sem,seval,h1,h3,g1,g3,q1,q3,hF,hp,l2,hO,hI,hloop,nat_neg,tnc,c0,c1,c2]
end
section
variable {bx : List Box} {nr ors irs : List (List D)} {N F X Y K2 : D} {p : Nat} {kd a op2 n2 el : Int} {cat : Bool}
theorem link_o (k1 : (kd == 1) = false) (k2 : (kd == 2) = false) (k7 : (kd == 7) = false) (k5 : (kd == 5) = false) (k6 : (kd == 6) = false) (hN : IsS 5 nr N) (hF : Oq F) (hX : IsS 1 ors X) (hY : IsS 1 irs Y) (hp : nr[p]? = some [dI kd,dI a,dI op2,dI n2,K2])
  (hO : Cq 78 [Nq N F,I p] (.dat X)) (hI : Cq 82 [Nq N F,I p] (.dat Y))
  (hloop : ev cfg (.loop 137 6 (qs bx (sh137_6 (P0 bx) (.dat X) (I irs.length) (I kd) (I 0) (B true) (.dat X) (I ors.length) (I 0)) [Nb N F])) =
   some (.loop (.exit 0) (qs bx (se137_6 (.dat X) (I irs.length) (I kd) (I el) (B cat)) [Nb N F]))) :
  Jq (.call 137 [Nq N F,I p] bx) = Rq (B (((irs.length : Int) == 1) && ((ors.length : Int) == 1))) := by
 obtain ⟨w,h1,h2,h3⟩ := hN
 obtain rfl := isS_w h2 hp
 obtain ⟨w',g1,g2,g3⟩ := hX
 obtain ⟨w'',q1,q2,q3⟩ := hY
 have l2 : p < nr.length := (gsi.1 hp).1
 cases c0 : ((irs.length : Int) == 1) <;> cases c1 : ((ors.length : Int) == 1) <;> simp only [go_sem,seval,h1,h3,g1,g3,q1,q3,hF,hp,l2,hO,hI,hloop,nat_neg,tnc,c0,c1,k1,k2,k7,k5,k6]
end
section
variable {bx : List Box} {nr rs : List (List D)} {N F K2 : D} {p : Nat} {kd a op2 n2 : Int}
theorem third1_f {s z : Int} {l1 l2 l3 : Nat} {vl : Bool} (hN : IsS 5 nr N) (hF : Oq F) (hp : nr[p]? = some [dI kd,dI a,dI op2,dI n2,K2]) (h1 : l1 < bx.length) (h2 : l2 < bx.length) (h3 : l3 < bx.length) (b1 : bx[l1]? = some (Nb N F)) (b2 : bx[l2]? = some [I s]) (b3 : bx[l3]? = some [I z])
  (hlk : ev cfg (.call 137 [Nq N F,I p] bx) = Rq (B vl)) :
  Jq (.call 136 [I p,.ptr l1 0,.ptr l2 0,.ptr l3 0] bx) = Rq (B (!vl || ((kd == 1 && (p : Int) != s) || (kd == 2 && (p : Int) != z)))) := by
 obtain ⟨w,g1,g2,g3⟩ := hN
 obtain rfl := isS_w g2 hp
 have l2 : p < nr.length := (gsi.1 hp).1
 cases vl <;> cases c1 : (kd == 1) <;> cases c2 : ((p : Int) != s) <;> cases c3 : (kd == 2) <;> cases c4 : ((p : Int) != z) <;> simp only [go_sem,seval,g1,g3,hF,hp,l2,h1,h2,h3,b1,b2,b3,hlk,nat_neg,tnc,c1,c2,c3,c4]
theorem third_f0 {s z : Int} (hN : IsS 5 nr N) (hF : Oq F) (hs : Cq 114 [Nq N F] (I s)) (hz : Cq 115 [Nq N F] (I z))
  (hpl : ev cfg (.call 107 [I 3,I nr.length,.clo 136 [bx.length,bx.length + 1,bx.length + 2]] (bx ++ [Nb N F,[I s],[I z]])) = Rq (.dat .nil)) :
  Jq (.call 112 [Nq N F] bx) = Rq (if (decide (s < 0) || decide (z < 0)) = true then .own true 2 [[dI 3,dI nr.length]] else .dat .nil) := by
 obtain ⟨w,g1,g2,g3⟩ := hN
 cases c1 : decide (s < 0) <;> cases c2 : decide (z < 0) <;> simp only [go_sem,seval,g1,g3,hF,hs,hz,hpl,c1,c2]
theorem third_f1 {s z : Int} (hks : (rs.length + 1) * 16 <= 140737488355328) (hN : IsS 5 nr N) (hF : Oq F) (hs : Cq 114 [Nq N F] (I s)) (hz : Cq 115 [Nq N F] (I z))
  (hpl : ev cfg (.call 107 [I 3,I nr.length,.clo 136 [bx.length,bx.length + 1,bx.length + 2]] (bx ++ [Nb N F,[I s],[I z]])) = Rq (.own true 2 rs)) :
  Jq (.call 112 [Nq N F] bx) = Rq (.own true 2 (if (decide (s < 0) || decide (z < 0)) = true then rs ++ [[dI 3,dI nr.length]] else rs)) := by
 obtain ⟨w,g1,g2,g3⟩ := hN
 cases c1 : decide (s < 0) <;> cases c2 : decide (z < 0) <;> simp only [go_sem,seval,g1,g3,hF,hs,hz,hpl,c1,c2,hks]
end
def boolR (bs : List Bool) : List (List D) := bs.map fun b => [.lit (.bool b)]
def intR (zs : List Int) : List (List D) := zs.map fun z => [dI z]
section
variable {bx : List Box} {c : Box} {nr fr : List (List D)} {N F K : D} {i q m : Nat} {f t op n : Int} {e back : Bool} {sr tr : List (List D)}
theorem met_in {back : Bool} (hF : IsS 6 fr F) (hc : c.all (cellLt (bx.length + 1)) = true) (hget : fr[i]? = some [dI f,dI t,.lit (.bool e),dI op,dI n,K]) (hk : Oq K) (hlt : i < fr.length) (hmax : fr.length < 9223372036854775808) (hks : (tr.length + 1) * 8 <= 140737488355328) :
  Jq (.loop 113 9 (qs bx (sh113_9 (B back) (P0 bx) (.own true 1 sr) (.own true 1 tr) (I q) (.dat F) (I fr.length) (I i)) [c])) =
   ev cfg (.loop 113 9 (qs bx (sh113_9 (B back) (P0 bx) (.own true 1 sr) (.own true 1 (if back = true then (if (t == (q : Int)) = true then tr ++ [[dI f]] else tr) else if (f == (q : Int)) = true then tr ++ [[dI t]] else tr)) (I q) (.dat F) (I fr.length) (I ((i + 1 : Nat) : Int))) [c])) := by
 obtain ⟨w,h1,h2,h3⟩ := hF
 obtain rfl := isS_w h2 hget
 cases back
 ·cases c1 : (f == (q : Int)) <;> simp only [go_sem,seval,h1,h3,hk,nat_lt hlt,nat_neg,tnc,hget,hc,hks,c1,nat_succ hlt hmax]
 ·cases c1 : (t == (q : Int)) <;> simp only [go_sem,seval,h1,h3,hk,nat_lt hlt,nat_neg,tnc,hget,hc,hks,c1,nat_succ hlt hmax]
theorem met_ine (hF : Oq F) (hc : c.all (cellLt (bx.length + 1)) = true) (hge : m <= i) :
  Jq (.loop 113 9 (qs bx (sh113_9 (B back) (P0 bx) (.own true 1 sr) (.own true 1 tr) (I q) (.dat F) (I m) (I i)) [c])) =
   some (.loop (.exit 2) (qs bx (se113_9 (B back) (P0 bx) (.own true 1 sr) (.own true 1 tr)) [c])) := by
 simp only [go_sem,seval,hF,hc,nat_ge hge]
theorem met_skip (hN : Oq N) (hF : Oq F) (hs : sr[q]? = some [.lit (.bool true)]) :
  Jq (.loop 113 3 (qs bx (sh113_3 (B back) (P0 bx) (.own true 1 sr) (.own true 1 ([dI q] :: tr))) [Nb N F])) =
   ev cfg (.loop 113 3 (qs bx (sh113_3 (B back) (P0 bx) (.own true 1 sr) (.own true 1 tr)) [Nb N F])) := by
 have hl : q < sr.length := (gsi.1 hs).1
 have h9 : decide (((tr.length + 1 : Nat) : Int) > 0) = true := dqt (by omega)
 have h8 : (0 < tr.length + 1) = True := by simp
 have h7 : ((1 : Int) <= ((tr.length + 1 : Nat) : Int)) = True := by simp; omega
 have h6 : (((tr.length + 1 : Nat) : Int) <= ((tr.length + 1 : Nat) : Int)) = True := by simp
 simp only [go_sem,seval,hN,hF,hs,hl,h9,h8,h7,h6,nat_neg,tnc,List.take_length]
theorem met_visit {fin : List (List D)} (hN : Oq N) (hF : IsS 6 fr F) (hs : sr[q]? = some [.lit (.bool false)])
  (hloop : ev cfg (.loop 113 9 (qs bx (sh113_9 (B back) (P0 bx) (.own true 1 (sr.set q [.lit (.bool true)])) (.own true 1 tr) (I q) (.dat F) (I fr.length) (I 0)) [Nb N F])) =
   some (.loop (.exit 2) (qs bx (se113_9 (B back) (P0 bx) (.own true 1 (sr.set q [.lit (.bool true)])) (.own true 1 fin)) [Nb N F]))) :
  Jq (.loop 113 3 (qs bx (sh113_3 (B back) (P0 bx) (.own true 1 sr) (.own true 1 ([dI q] :: tr))) [Nb N F])) =
   ev cfg (.loop 113 3 (qs bx (sh113_3 (B back) (P0 bx) (.own true 1 (sr.set q [.lit (.bool true)])) (.own true 1 fin)) [Nb N F])) := by
 obtain ⟨w,h1,h2,h3⟩ := hF
 have hl : q < sr.length := (gsi.1 hs).1
 have h9 : decide (((tr.length + 1 : Nat) : Int) > 0) = true := dqt (by omega)
 have h8 : (0 < tr.length + 1) = True := by simp
 have h7 : ((1 : Int) <= ((tr.length + 1 : Nat) : Int)) = True := by simp; omega
 have h6 : (((tr.length + 1 : Nat) : Int) <= ((tr.length + 1 : Nat) : Int)) = True := by simp
 simp only [go_sem,seval,hN,h1,h3,hs,hl,h9,h8,h7,h6,nat_neg,tnc,List.take_length,hloop]
theorem met_end (hN : Oq N) (hF : Oq F) :
  Jq (.loop 113 3 (qs bx (sh113_3 (B back) (P0 bx) (.own true 1 sr) (.own true 1 [])) [Nb N F])) =
   some (.loop (.exit 0) (qs bx (se113_3 (.own true 1 sr)) [Nb N F])) := by
 have h9 : decide (((0 : Nat) : Int) > 0) = false := by decide
 simp only [go_sem,seval,hN,hF,h9]
theorem met_f (hN : IsS 5 nr N) (hF : Oq F) (hmax : nr.length <= 100000)
  (hloop : ev cfg (.loop 113 3 (qs bx (sh113_3 (B back) (P0 bx) (.own true 1 (List.replicate nr.length [.lit (.bool false)])) (.own true 1 [[dI f]])) [Nb N F])) =
   some (.loop (.exit 0) (qs bx (se113_3 (.own true 1 sr)) [Nb N F]))) :
  Jq (.call 113 [Nq N F,I f,B back] bx) = Rq (.dat (.sl 1 sr)) := by
 obtain ⟨w,h1,h2,h3⟩ := hN
 have h7 : ((0 : Int) <= (nr.length : Int)) = True := by simp
 have h8 : (nr.length <= 140737488355328) = True := by simp; omega
 have h8' : (nr.length * 1 <= 140737488355328) = True := by simp; omega
 simp only [go_sem,seval,h1,h3,hF,h7,h8,h8',tnc,Nat.mul_one,hloop]
end
end Go.Proofs.YtifckjhggamefaaGreatDoor
