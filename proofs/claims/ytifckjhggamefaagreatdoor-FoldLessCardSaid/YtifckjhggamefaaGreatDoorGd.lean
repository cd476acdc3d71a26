/- Rounds of package net's functions: flows, none, of, right, leads, Start, End, places. No condition. -/
import Derived.Test.YtifckjhggamefaaGreatDoorPb
set_option linter.unusedSimpArgs false
set_option linter.unusedVariables false
set_option linter.unusedSectionVars false
namespace Go.Proofs.YtifckjhggamefaaGreatDoor
open Go Go.Vx
set_option maxHeartbeats 4000000
set_option maxRecDepth 10000
section
variable {bx : List Box} {c : Box} {fr r : List (List D)} {N F K : D} {i l : Nat} {k a op n : Int} {rs : List (List D)} {v : Bool}
theorem none_r (hK : IsS 3 r K) : Jq (.call 134 [Tq op n K] bx) = Rq (B (op == 0 && (n == 0 && (r.length : Int) == 0))) := by
 obtain ⟨w,h1,h2,h3⟩ := hK
 cases c1 : (op == 0) <;> cases c2 : (n == 0) <;> simp only [go_sem,seval,h1,h3,c1,c2]
theorem of_r {ty er kind : Int} (hK : Oq K) (hc : Cq 158 [Tq op n K] (.tup [I ty,I er])) :
  Jq (.call 133 [Tq op n K,I kind] bx) = Rq (B (er == 0 && ty == kind)) := by
 cases c1 : (er == 0) <;> simp only [go_sem,seval,hK,hc,c1]
theorem right_4n (hK : Oq K) (ho : Cq 133 [Tq op n K,I 1] (B false)) :
  Jq (.call 109 [.agg [I 4,I a,I op,I n,.dat K]] bx) = Rq (B false) := by
 simp only [go_sem,seval,hK,ho]
theorem right_4y (hK : Oq K) (ho : Cq 133 [Tq op n K,I 1] (B true)) (hz : Cq 134 [Tq 0 0 .nil] (B true)) :
  Jq (.call 109 [.agg [I 4,I a,I op,I n,.dat K]] bx) = Rq (B (decide (a >= 0) && decide (a <= 3))) := by
 cases c1 : decide (a >= 0) <;> cases c2 : decide (a <= 3) <;> simp only [go_sem,seval,hK,ho,hz,c1,c2]
theorem right_3 (hK : Oq K) (hn : Cq 134 [Tq op n K] (B v)) :
  Jq (.call 109 [.agg [I 3,I a,I op,I n,.dat K]] bx) = Rq (B (decide (a >= 0) && (decide (a <= 3) && v))) := by
 cases c1 : decide (a >= 0) <;> cases c2 : decide (a <= 3) <;> simp only [go_sem,seval,hK,hn,c1,c2]
theorem right_8 (hK : Oq K) (hn : Cq 134 [Tq op n K] (B v)) :
  Jq (.call 109 [.agg [I 8,I a,I op,I n,.dat K]] bx) = Rq (B (decide (a >= 0) && (decide (a <= 4) && v))) := by
 cases c1 : decide (a >= 0) <;> cases c2 : decide (a <= 4) <;> simp only [go_sem,seval,hK,hn,c1,c2]
theorem right_o (hK : Oq K) (h4 : (k == 4) = false) (h3' : (k == 3) = false) (h8 : (k == 8) = false) (hn : Cq 134 [Tq op n K] (B v)) :
  Jq (.call 109 [.agg [I k,I a,I op,I n,.dat K]] bx) = Rq (B (decide (k >= 1) && (decide (k <= 8) && (decide (a >= 0) && (decide (a <= 0) && v))))) := by
 cases c1 : decide (k >= 1) <;> cases c2 : decide (k <= 8) <;> cases c3 : decide (a >= 0) <;> cases c4 : decide (a <= 0) <;> simp only [go_sem,seval,hK,hn,h4,h3',h8,c1,c2,c3,c4]
theorem flows_round0 {g : FuncId} {f t : Int} {e : Bool} (hF : IsS 6 fr F) (hl : l < bx.length) (hc : c.all (cellLt (bx.length + 1)) = true) (hget : fr[i]? = some [dI f,dI t,.lit (.bool e),dI op,dI n,K]) (hlt : i < fr.length) (hmax : fr.length < 9223372036854775808) (hk : Oq K)
  (hcall : ∀ r : List Box,ev cfg (.call g [.agg [I f,I t,B e,I op,I n,.dat K],.ptr l 0] (bx ++ r)) = Rq (B v)) :
  Jq (.loop 123 3 (qs bx (sh123_3 (.clo g [l]) (.dat .nil) (.dat F) (I fr.length) (I i)) [c])) =
   ev cfg (.loop 123 3 (qs bx (sh123_3 (.clo g [l]) ((if v = true then .own true 1 [[dI i]] else .dat .nil)) (.dat F) (I fr.length) (I ((i + 1 : Nat) : Int))) [c])) := by
 obtain ⟨w,h1,h2,h3⟩ := hF
 obtain rfl := isS_w h2 hget
 cases v <;> simp only [go_sem,seval,h1,h3,hk,hl,nat_lt hlt,nat_neg,tnc,hget,hcall,hc,nat_succ hlt hmax]
theorem flows_round1 {g : FuncId} {f t : Int} {e : Bool} (hF : IsS 6 fr F) (hl : l < bx.length) (hc : c.all (cellLt (bx.length + 1)) = true) (hget : fr[i]? = some [dI f,dI t,.lit (.bool e),dI op,dI n,K]) (hlt : i < fr.length) (hmax : fr.length < 9223372036854775808) (hk : Oq K)
  (hks : (rs.length + 1) * 8 <= 140737488355328) (hcall : ∀ r : List Box,ev cfg (.call g [.agg [I f,I t,B e,I op,I n,.dat K],.ptr l 0] (bx ++ r)) = Rq (B v)) :
  Jq (.loop 123 3 (qs bx (sh123_3 (.clo g [l]) (.own true 1 rs) (.dat F) (I fr.length) (I i)) [c])) =
   ev cfg (.loop 123 3 (qs bx (sh123_3 (.clo g [l]) ((.own true 1 (if v = true then rs ++ [[dI i]] else rs))) (.dat F) (I fr.length) (I ((i + 1 : Nat) : Int))) [c])) := by
 obtain ⟨w,h1,h2,h3⟩ := hF
 obtain rfl := isS_w h2 hget
 cases v <;> simp only [go_sem,seval,h1,h3,hk,hl,nat_lt hlt,nat_neg,tnc,hget,hcall,hc,hks,nat_succ hlt hmax]
theorem flows_end {g : FuncId} {X : PV} {m : Nat} (hX : X = mkS 1 rs) (hl : l < bx.length) (hc : c.all (cellLt (bx.length + 1)) = true) (hge : m <= i) :
  Jq (.loop 123 3 (qs bx (sh123_3 (.clo g [l]) X (.dat F) (I m) (I i)) [c])) = some (.loop (.exit 0) (qs bx (se123_3 X) [c])) := by
 subst hX
 cases rs <;> simp only [go_sem,seval,mkS,nat_ge hge,hc,hl]
theorem flows_f {g : FuncId} (hN : Oq N) (hF : IsS 6 fr F) (hl : l < bx.length)
  (hloop : ∀ c : Box,c.all (cellLt (bx.length + 1)) = true -> ev cfg (.loop 123 3 (qs bx (sh123_3 (.clo g [l]) (.dat .nil) (.dat F) (I fr.length) (I 0)) [c])) = some (.loop (.exit 0) (qs bx (se123_3 (mkS 1 rs)) [c]))) :
  Jq (.call 123 [Nq N F,.clo g [l]] bx) = Rq (.dat (mkD 1 rs)) := by
 obtain ⟨w,h1,h2,h3⟩ := hF
 have hloop' := hloop (Nb N F) (by simp [cellLt])
 cases rs <;> simp only [mkS] at hloop' <;> simp only [go_sem,seval,mkD,h1,h3,hN,hl,hloop']
theorem outs1_f {f t q : Int} {e : Bool} (hK : Oq K) (hl : l < bx.length) (hb : bx[l]? = some [I q]) : Jq (.call 124 [.agg [I f,I t,B e,I op,I n,.dat K],.ptr l 0] bx) = Rq (B (f == q)) := by
 simp only [go_sem,seval,hK,hl,hb]
theorem ins1_f {f t q : Int} {e : Bool} (hK : Oq K) (hl : l < bx.length) (hb : bx[l]? = some [I q]) : Jq (.call 127 [.agg [I f,I t,B e,I op,I n,.dat K],.ptr l 0] bx) = Rq (B (t == q)) := by
 simp only [go_sem,seval,hK,hl,hb]
theorem outs_f {q : Int} {X : D} (hN : Oq N) (hF : Oq F) (hX : Oq X) (hc : ∀ c : Box,ev cfg (.call 123 [Nq N F,.clo 124 [bx.length + 1]] (bx ++ [c,[I q]])) = Rq (.dat X)) :
  Jq (.call 78 [Nq N F,I q] bx) = Rq (.dat X) := by
 cases X <;> simp only [go_sem,seval,hN,hF,hc]
theorem ins_f {q : Int} {X : D} (hN : Oq N) (hF : Oq F) (hX : Oq X) (hc : ∀ c : Box,ev cfg (.call 123 [Nq N F,.clo 127 [bx.length + 1]] (bx ++ [c,[I q]])) = Rq (.dat X)) :
  Jq (.call 82 [Nq N F,I q] bx) = Rq (.dat X) := by
 cases X <;> simp only [go_sem,seval,hN,hF,hc]
end
section
variable {bx : List Box} {c : Box} {nr : List (List D)} {N F K : D} {i l : Nat} {k a op n : Int} {rs : List (List D)} {v : Bool}
theorem index_round {g : FuncId} (hN : IsS 5 nr N) (hget : nr[i]? = some [dI k,dI a,dI op,dI n,K]) (hlt : i < nr.length) (hmax : nr.length < 9223372036854775808) (hk : Oq K) (hcall : ∀ bx : List Box,ev cfg (.call g [.agg [I k,I a,I op,I n,.dat K]] bx) = Rq (B v)) :
  Jq (.loop 138 2 (q0 bx (sh138_2 (.dat N) (.clo g []) (I nr.length) (I i)))) =
   if v = true then some (.loop .ret (q0 bx (se138_2 (I i))))
   else ev cfg (.loop 138 2 (q0 bx (sh138_2 (.dat N) (.clo g []) (I nr.length) (I ((i + 1 : Nat) : Int))))) := by
 obtain ⟨w,h1,h2,h3⟩ := hN
 obtain rfl := isS_w h2 hget
 cases v <;> simp only [go_sem,seval,h1,h3,hk,nat_lt hlt,nat_neg,tnc,hget,hcall,nat_succ hlt hmax]
theorem index_end {g : FuncId} {m : Nat} (hge : m <= i) :
  Jq (.loop 138 2 (q0 bx (sh138_2 (.dat N) (.clo g []) (I m) (I i)))) = some (.loop (.exit 0) (q0 bx (se138_2 .dead))) := by
 simp only [go_sem,seval,nat_ge hge]
theorem index_f {g : FuncId} {y : Option Int} (hN : IsS 5 nr N) 
  (hloop : ev cfg (.loop 138 2 (q0 bx (sh138_2 (.dat N) (.clo g []) (I nr.length) (I 0)))) = some (match y with
   | some j => .loop .ret (q0 bx (se138_2 (I j)))
   | none => .loop (.exit 0) (q0 bx (se138_2 .dead)))) :
  Jq (.call 138 [.dat N,.clo g []] bx) = Rq (I (y.getD (-1))) := by
 obtain ⟨w,h1,h2,h3⟩ := hN
 cases y <;> simp only [go_sem,seval,h1,h3,hloop]
theorem start1_f (hK : Oq K) : Jq (.call 139 [.agg [I k,I a,I op,I n,.dat K]] bx) = Rq (B (k == 1)) := by
 simp only [go_sem,seval,hK]
theorem end1_f (hK : Oq K) : Jq (.call 140 [.agg [I k,I a,I op,I n,.dat K]] bx) = Rq (B (k == 2)) := by
 simp only [go_sem,seval,hK]
theorem start_f {y : Int} (hN : Oq N) (hF : Oq F) (hc : Cq 138 [.dat N,.clo 139 []] (I y)) :
  Jq (.call 114 [Nq N F] bx) = Rq (I y) := by
 simp only [go_sem,seval,hN,hF,hc]
theorem end_f {y : Int} (hN : Oq N) (hF : Oq F) (hc : Cq 138 [.dat N,.clo 140 []] (I y)) :
  Jq (.call 115 [Nq N F] bx) = Rq (I y) := by
 simp only [go_sem,seval,hN,hF,hc]
theorem leads1_f {q : Int} (hN : IsS 5 nr N) (hl : l < bx.length) (hb : bx[l]? = some (Nb N F)) : Jq (.call 135 [I q,.ptr l 0] bx) = Rq (B (decide (q >= 0) && decide (q < (nr.length : Int)))) := by
 obtain ⟨w,h1,h2,h3⟩ := hN
 cases c1 : decide (q >= 0) <;> simp only [go_sem,seval,h1,h3,hl,hb,c1]
section
variable {f t : Int} {e v2 z : Bool} {p : Nat} {X : D} {ors : List (List D)} {K2 : D} {op2 n2 : Int}
theorem leads_no1 (hN : Oq N) (hF : Oq F) (hK : Oq K) (h1 : ∀ c : Box,ev cfg (.call 135 [I f,P0 bx] (bx ++ [Nb N F,c])) = Rq (B false)) :
  Jq (.call 111 [Nq N F,.agg [I f,I t,B e,I op,I n,.dat K]] bx) = Rq (B false) := by
 simp only [go_sem,seval,hN,hF,hK,h1]
theorem leads_no2 (hN : Oq N) (hF : Oq F) (hK : Oq K) (h1 : ∀ c : Box,ev cfg (.call 135 [I f,P0 bx] (bx ++ [Nb N F,c])) = Rq (B true))
  (h2 : ∀ c : Box,ev cfg (.call 135 [I t,P0 bx] (bx ++ [Nb N F,c])) = Rq (B v2)) (h : v2 = false ∨ (f == t) = true) :
  Jq (.call 111 [Nq N F,.agg [I f,I t,B e,I op,I n,.dat K]] bx) = Rq (B false) := by
 cases v2
 ·simp only [go_sem,seval,hN,hF,hK,h1,h2]
 ·have h' : (f == t) = true := by rcases h with h | h; cases h; exact h
  simp only [go_sem,seval,hN,hF,hK,h1,h2,h']
theorem leads_go {zo : Bool} (hN : IsS 5 nr N) (hF : Oq F) (hK : Oq K) (h1 : ∀ c : Box,ev cfg (.call 135 [I p,P0 bx] (bx ++ [Nb N F,c])) = Rq (B true))
  (h2 : ∀ c : Box,ev cfg (.call 135 [I t,P0 bx] (bx ++ [Nb N F,c])) = Rq (B true)) (h3 : ((p : Int) == t) = false) (hget : nr[p]? = some [dI k,dI a,dI op2,dI n2,K2])
  (hX : IsS 1 ors X) (ho : Cq 78 [Nq N F,I p] (.dat X)) (hn : Cq 134 [Tq op n K] (B z))
  (hof : Cq 133 [Tq op n K,I 2] (B zo)) :
  Jq (.call 111 [Nq N F,.agg [I p,I t,B e,I op,I n,.dat K]] bx) =
   (Rq (B (if ((k != 5) || decide ((ors.length : Int) < 2)) = true then !e && z else if e = true then z else zo))) := by
 obtain ⟨w,g1,g2,g3⟩ := hN
 obtain rfl := isS_w g2 hget
 obtain ⟨w',g1',g2',g3'⟩ := hX
 have hlt : p < nr.length := (gsi.1 hget).1
 cases c1 : (k != 5) <;> cases c2 : decide ((ors.length : Int) < 2) <;> cases e <;> simp only [go_sem,seval,g1,g3,g1',g3',hF,hK,h1,h2,h3,hget,ho,hn,hof,c1,c2,nat_neg,tnc,hlt]
end
theorem places_round0 {g : FuncId} {cap : List Nat} {rule : Int} {m : Nat} (hcap : (cap.all fun l => decide (l < bx.length)) = true) (hlt : i < m) (hmax : m < 9223372036854775808)
  (hcall : ev cfg (.call g (I i :: cap.map fun l => .ptr l 0) bx) = Rq (B v)) :
  Jq (.loop 107 3 (q0 bx (sh107_3 (I rule) (.clo g cap) (.dat .nil) (I m) (I i)))) =
   ev cfg (.loop 107 3 (q0 bx (sh107_3 (I rule) (.clo g cap) ((if v = true then .own true 2 [[dI rule,dI i]] else .dat .nil)) (I m) (I ((i + 1 : Nat) : Int))))) := by
 cases v <;> simp only [go_sem,seval,nat_lt hlt,hcall,hcap,nat_succ hlt hmax]
theorem places_round1 {g : FuncId} {cap : List Nat} {rule : Int} {m : Nat} (hcap : (cap.all fun l => decide (l < bx.length)) = true) (hlt : i < m) (hmax : m < 9223372036854775808) (hks : (rs.length + 1) * 16 <= 140737488355328)
  (hcall : ev cfg (.call g (I i :: cap.map fun l => .ptr l 0) bx) = Rq (B v)) :
  Jq (.loop 107 3 (q0 bx (sh107_3 (I rule) (.clo g cap) (.own true 2 rs) (I m) (I i)))) =
   ev cfg (.loop 107 3 (q0 bx (sh107_3 (I rule) (.clo g cap) ((.own true 2 (if v = true then rs ++ [[dI rule,dI i]] else rs))) (I m) (I ((i + 1 : Nat) : Int))))) := by
 cases v <;> simp only [go_sem,seval,nat_lt hlt,hcall,hcap,hks,nat_succ hlt hmax]
theorem places_end {g : FuncId} {cap : List Nat} {rule : Int} {m : Nat} (hcap : (cap.all fun l => decide (l < bx.length)) = true) (hge : m <= i) :
  Jq (.loop 107 3 (q0 bx (sh107_3 (I rule) (.clo g cap) (mkS 2 rs) (I m) (I i)))) = some (.loop (.exit 0) (q0 bx (se107_3 (mkS 2 rs)))) := by
 cases rs <;> simp only [go_sem,seval,mkS,nat_ge hge,hcap]
theorem places_f {g : FuncId} {cap : List Nat} {rule : Int} {m : Nat} (hcap : (cap.all fun l => decide (l < bx.length)) = true)
  (hloop : ev cfg (.loop 107 3 (q0 bx (sh107_3 (I rule) (.clo g cap) (.dat .nil) (I m) (I 0)))) = some (.loop (.exit 0) (q0 bx (se107_3 (mkS 2 rs))))) :
  Jq (.call 107 [I rule,I m,.clo g cap] bx) = Rq (mkS 2 rs) := by
 cases rs <;> simp only [mkS] at hloop <;> simp only [go_sem,seval,mkS,hcap,hloop]
end
section
variable {bx : List Box} {nr fr ors irs : List (List D)} {N F X Y K K2 : D} {i j p : Nat} {k kd a op n op2 n2 f el ins : Int} {e cat : Bool}
theorem link_round (hN : IsS 5 nr N) (hF : IsS 6 fr F) (hX : IsS 1 ors X) (hget : ors[i]? = some [dI j]) (hj : fr[j]? = some [dI f,dI p,.lit (.bool e),dI op,dI n,K]) (hp : nr[p]? = some [dI k,dI a,dI op2,dI n2,K2]) (hlt : i < ors.length) (hmax : ors.length < 9223372036854775808) (hel : IntKind.wrap .i64 (el + 1) = el + 1) :
  Jq (.loop 137 6 (qs bx (sh137_6 (P0 bx) (.dat X) (I ins) (I kd) (I el) (B cat) (.dat X) (I ors.length) (I i)) [Nb N F])) =
   ev cfg (.loop 137 6 (qs bx (sh137_6 (P0 bx) (.dat X) (I ins) (I kd) (I (if e = true then el + 1 else el)) (B (cat && k == 8)) (.dat X) (I ors.length) (I ((i + 1 : Nat) : Int))) [Nb N F])) := by
 obtain ⟨w,h1,h2,h3⟩ := hN
 obtain rfl := isS_w h2 hp
 obtain ⟨w,g1,g2,g3⟩ := hF
 obtain rfl := isS_w g2 hj
 obtain ⟨w,q1,q2,q3⟩ := hX
 obtain rfl := isS_w q2 hget
 have l1 : j < fr.length := (gsi.1 hj).1
 have l2 : p < nr.length := (gsi.1 hp).1
 cases e <;> cases cat <;> simp only [go_sem,seval,h1,h3,g1,g3,q1,q3,hget,hj,hp,l1,l2,nat_lt hlt,nat_neg,tnc,hel,nat_succ hlt hmax]
theorem link_end {m : Nat} (hN : Oq N) (hF : Oq F) (hX : Oq X) (hge : m <= i) :
  Jq (.loop 137 6 (qs bx (sh137_6 (P0 bx) (.dat X) (I ins) (I kd) (I el) (B cat) (.dat X) (I m) (I i)) [Nb N F])) =
   some (.loop (.exit 0) (qs bx (se137_6 (.dat X) (I ins) (I kd) (I el) (B cat)) [Nb N F])) := by
 simp only [go_sem,seval,hN,hF,hX,nat_ge hge]
theorem link_1 (hN : IsS 5 nr N) (hF : Oq F) (hX : IsS 1 ors X) (hY : IsS 1 irs Y) (hp : nr[p]? = some [dI 1,dI a,dI op2,dI n2,K2])
  (hO : Cq 78 [Nq N F,I p] (.dat X)) (hI : Cq 82 [Nq N F,I p] (.dat Y))
  (hloop : ev cfg (.loop 137 6 (qs bx (sh137_6 (P0 bx) (.dat X) (I irs.length) (I 1) (I 0) (B true) (.dat X) (I ors.length) (I 0)) [Nb N F])) =
   some (.loop (.exit 0) (qs bx (se137_6 (.dat X) (I irs.length) (I 1) (I el) (B cat)) [Nb N F]))) :
  Jq (.call 137 [Nq N F,I p] bx) = Rq (B (((irs.length : Int) == 0) && ((ors.length : Int) == 1))) := by
 obtain ⟨w,h1,h2,h3⟩ := hN
 obtain rfl := isS_w h2 hp
 obtain ⟨w',g1,g2,g3⟩ := hX
 obtain ⟨w'',q1,q2,q3⟩ := hY
 have l2 : p < nr.length := (gsi.1 hp).1
 cases c0 : ((irs.length : Int) == 0) <;> cases c1 : ((ors.length : Int) == 1) <;> simp only [go_sem,seval,h1,h3,g1,g3,q1,q3,hF,hp,l2,hO,hI,hloop,nat_neg,tnc,c0,c1]
theorem link_2 (hN : IsS 5 nr N) (hF : Oq F) (hX : IsS 1 ors X) (hY : IsS 1 irs Y) (hp : nr[p]? = some [dI 2,dI a,dI op2,dI n2,K2])
  (hO : Cq 78 [Nq N F,I p] (.dat X)) (hI : Cq 82 [Nq N F,I p] (.dat Y))
  (hloop : ev cfg (.loop 137 6 (qs bx (sh137_6 (P0 bx) (.dat X) (I irs.length) (I 2) (I 0) (B true) (.dat X) (I ors.length) (I 0)) [Nb N F])) =
   some (.loop (.exit 0) (qs bx (se137_6 (.dat X) (I irs.length) (I 2) (I el) (B cat)) [Nb N F]))) :
  Jq (.call 137 [Nq N F,I p] bx) = Rq (B (((irs.length : Int) == 1) && ((ors.length : Int) == 0))) := by
 obtain ⟨w,h1,h2,h3⟩ := hN
 obtain rfl := isS_w h2 hp
 obtain ⟨w',g1,g2,g3⟩ := hX
 obtain ⟨w'',q1,q2,q3⟩ := hY
 have l2 : p < nr.length := (gsi.1 hp).1
 cases c0 : ((irs.length : Int) == 1) <;> cases c1 : ((ors.length : Int) == 0) <;> simp only [go_sem,seval,h1,h3,g1,g3,q1,q3,hF,hp,l2,hO,hI,hloop,nat_neg,tnc,c0,c1]
end
section
variable {bx : List Box} {nr ors irs : List (List D)} {N F X Y K2 : D} {p : Nat} {a op2 n2 el : Int} {cat : Bool}
theorem link_7 (hN : IsS 5 nr N) (hF : Oq F) (hX : IsS 1 ors X) (hY : IsS 1 irs Y) (hp : nr[p]? = some [dI 7,dI a,dI op2,dI n2,K2])
  (hO : Cq 78 [Nq N F,I p] (.dat X)) (hI : Cq 82 [Nq N F,I p] (.dat Y))
  (hloop : ev cfg (.loop 137 6 (qs bx (sh137_6 (P0 bx) (.dat X) (I irs.length) (I 7) (I 0) (B true) (.dat X) (I ors.length) (I 0)) [Nb N F])) =
   some (.loop (.exit 0) (qs bx (se137_6 (.dat X) (I irs.length) (I 7) (I el) (B cat)) [Nb N F]))) :
  Jq (.call 137 [Nq N F,I p] bx) = Rq (B (((irs.length : Int) == 1) && (decide ((ors.length : Int) > 1) && cat))) := by
 obtain ⟨w,h1,h2,h3⟩ := hN
 obtain rfl := isS_w h2 hp
 obtain ⟨w',g1,g2,g3⟩ := hX
 obtain ⟨w'',q1,q2,q3⟩ := hY
 have l2 : p < nr.length := (gsi.1 hp).1
 cases c0 : ((irs.length : Int) == 1) <;> cases c1 : decide ((ors.length : Int) > 1) <;> simp only [go_sem,seval,h1,h3,g1,g3,q1,q3,hF,hp,l2,hO,hI,hloop,nat_neg,tnc,c0,c1]
theorem link_6 (hN : IsS 5 nr N) (hF : Oq F) (hX : IsS 1 ors X) (hY : IsS 1 irs Y) (hp : nr[p]? = some [dI 6,dI a,dI op2,dI n2,K2])
  (hO : Cq 78 [Nq N F,I p] (.dat X)) (hI : Cq 82 [Nq N F,I p] (.dat Y))
  (hloop : ev cfg (.loop 137 6 (qs bx (sh137_6 (P0 bx) (.dat X) (I irs.length) (I 6) (I 0) (B true) (.dat X) (I ors.length) (I 0)) [Nb N F])) =
   some (.loop (.exit 0) (qs bx (se137_6 (.dat X) (I irs.length) (I 6) (I el) (B cat)) [Nb N F]))) :
  Jq (.call 137 [Nq N F,I p] bx) = Rq (B ((((irs.length : Int) == 1) && decide ((ors.length : Int) > 1)) || (decide ((irs.length : Int) > 1) && ((ors.length : Int) == 1)))) := by
 obtain ⟨w,h1,h2,h3⟩ := hN
 obtain rfl := isS_w h2 hp
 obtain ⟨w',g1,g2,g3⟩ := hX
 obtain ⟨w'',q1,q2,q3⟩ := hY
 have l2 : p < nr.length := (gsi.1 hp).1
 cases c0 : ((irs.length : Int) == 1)
 ·cases c1 : decide ((irs.length : Int) > 1)
  ·simp only [go_sem,seval,h1,h3,g1,g3,q1,q3,hF,hp,l2,hO,hI,hloop,nat_neg,tnc,c0,c1]
  ·cases c2 : ((ors.length : Int) == 1)
   ·simp only [go_sem,seval,h1,h3,g1,g3,q1,q3,hF,hp,l2,hO,hI,hloop,nat_neg,tnc,c0,c1,c2]
   ·simp only [go_sem,seval,h1,h3,g1,g3,q1,q3,hF,hp,l2,hO,hI,hloop,nat_neg,tnc,c0,c1,c2]
 ·cases c1 : decide ((ors.length : Int) > 1)
  ·cases c2 : decide ((irs.length : Int) > 1)
   ·simp only [go_sem,seval,h1,h3,g1,g3,q1,q3,hF,hp,l2,hO,hI,hloop,nat_neg,tnc,c0,c1,c2]
   ·cases c3 : ((ors.length : Int) == 1)
    ·simp only [go_sem,seval,h1,h3,g1,g3,q1,q3,hF,hp,l2,hO,hI,hloop,nat_neg,tnc,c0,c1,c2,c3]
    ·simp only [go_sem,seval,h1,h3,g1,g3,q1,q3,hF,hp,l2,hO,hI,hloop,nat_neg,tnc,c0,c1,c2,c3]
  ·simp only [go_sem,seval,h1,h3,g1,g3,q1,q3,hF,hp,l2,hO,hI,hloop,nat_neg,tnc,c0,c1]
end
section
variable {bx : List Box} {nr ors irs : List (List D)} {N F X Y K2 : D} {p : Nat} {a op2 n2 el : Int} {cat : Bool}
theorem link_5 (hN : IsS 5 nr N) (hF : Oq F) (hX : IsS 1 ors X) (hY : IsS 1 irs Y) (hp : nr[p]? = some [dI 5,dI a,dI op2,dI n2,K2])
  (hO : Cq 78 [Nq N F,I p] (.dat X)) (hI : Cq 82 [Nq N F,I p] (.dat Y))
  (hloop : ev cfg (.loop 137 6 (qs bx (sh137_6 (P0 bx) (.dat X) (I irs.length) (I 5) (I 0) (B true) (.dat X) (I ors.length) (I 0)) [Nb N F])) =
   some (.loop (.exit 0) (qs bx (se137_6 (.dat X) (I irs.length) (I 5) (I el) (B cat)) [Nb N F]))) :
  Jq (.call 137 [Nq N F,I p] bx) = Rq (B ((((irs.length : Int) == 1) && (decide ((ors.length : Int) > 1) && el == 1)) || (decide ((irs.length : Int) > 1) && ((ors.length : Int) == 1)))) := by
 obtain ⟨w,h1,h2,h3⟩ := hN
 obtain rfl := isS_w h2 hp
 obtain ⟨w',g1,g2,g3⟩ := hX
 obtain ⟨w'',q1,q2,q3⟩ := hY
 have l2 : p < nr.length := (gsi.1 hp).1
 cases c0 : ((irs.length : Int) == 1)
 ·cases c1 : decide ((irs.length : Int) > 1)
  ·simp only [go_sem,seval,h1,h3,g1,g3,q1,q3,hF,hp,l2,hO,hI,hloop,nat_neg,tnc,c0,c1]
  ·cases c2 : ((ors.length : Int) == 1)
   ·simp only [go_sem,seval,h1,h3,g1,g3,q1,q3,hF,hp,l2,hO,hI,hloop,nat_neg,tnc,c0,c1,c2]
   ·simp only [go_sem,seval,h1,h3,g1,g3,q1,q3,hF,hp,l2,hO,hI,hloop,nat_neg,tnc,c0,c1,c2]
 ·cases c1 : decide ((ors.length : Int) > 1)
  ·cases c2 : decide ((irs.length : Int) > 1)
   ·simp only [go_sem,seval,h1,h3,g1,g3,q1,q3,hF,hp,l2,hO,hI,hloop,nat_neg,tnc,c0,c1,c2]
   ·cases c3 : ((ors.length : Int) == 1)
    ·simp only [go_sem,seval,h1,h3,g1,g3,q1,q3,hF,hp,l2,hO,hI,hloop,nat_neg,tnc,c0,c1,c2,c3]
    ·simp only [go_sem,seval,h1,h3,g1,g3,q1,q3,hF,hp,l2,hO,hI,hloop,nat_neg,tnc,c0,c1,c2,c3]
  ·cases c2 : (el == 1)
   ·cases c3 : decide ((irs.length : Int) > 1)
    ·simp only [go_sem,seval,h1,h3,g1,g3,q1,q3,hF,hp,l2,hO,hI,hloop,nat_neg,tnc,c0,c1,c2,c3]
    ·cases c4 : ((ors.length : Int) == 1)
     ·simp only [go_sem,seval,h1,h3,g1,g3,q1,q3,hF,hp,l2,hO,hI,hloop,nat_neg,tnc,c0,c1,c2,c3,c4]
     ·simp only [go_sem,seval,h1,h3,g1,g3,q1,q3,hF,hp,l2,hO,hI,hloop,nat_neg,tnc,c0,c1,c2,c3,c4]
   ·simp only [go_sem,seval,h1,h3,g1,g3,q1,q3,hF,hp,l2,hO,hI,hloop,nat_neg,tnc,c0,c1,c2]
end
section
variable {bx : List Box} {nr ors irs : List (List D)} {N F X Y K2 : D} {p : Nat} {kd a op2 n2 el : Int} {cat : Bool}
theorem link_o (k1 : (kd == 1) = false) (k2 : (kd == 2) = false) (k7 : (kd == 7) = false) (k5 : (kd == 5) = false) (k6 : (kd == 6) = false) (hN : IsS 5 nr N) (hF : Oq F) (hX : IsS 1 ors X) (hY : IsS 1 irs Y) (hp : nr[p]? = some [dI kd,dI a,dI op2,dI n2,K2])
  (hO : Cq 78 [Nq N F,I p] (.dat X)) (hI : Cq 82 [Nq N F,I p] (.dat Y))
  (hloop : ev cfg (.loop 137 6 (qs bx (sh137_6 (P0 bx) (.dat X) (I irs.length) (I kd) (I 0) (B true) (.dat X) (I ors.length) (I 0)) [Nb N F])) =
   some (.loop (.exit 0) (qs bx (se137_6 (.dat X) (I irs.length) (I kd) (I el) (B cat)) [Nb N F]))) :
  Jq (.call 137 [Nq N F,I p] bx) = Rq (B (((irs.length : Int) == 1) && ((ors.length : Int) == 1))) := by
 obtain ⟨w,h1,h2,h3⟩ := hN
 obtain rfl := isS_w h2 hp
 obtain ⟨w',g1,g2,g3⟩ := hX
 obtain ⟨w'',q1,q2,q3⟩ := hY
 have l2 : p < nr.length := (gsi.1 hp).1
 cases c0 : ((irs.length : Int) == 1) <;> cases c1 : ((ors.length : Int) == 1) <;> simp only [go_sem,seval,h1,h3,g1,g3,q1,q3,hF,hp,l2,hO,hI,hloop,nat_neg,tnc,c0,c1,k1,k2,k7,k5,k6]
end
section
variable {bx : List Box} {nr rs : List (List D)} {N F K2 : D} {p : Nat} {kd a op2 n2 : Int}
theorem third1_f {s z : Int} {l1 l2 l3 : Nat} {vl : Bool} (hN : IsS 5 nr N) (hF : Oq F) (hp : nr[p]? = some [dI kd,dI a,dI op2,dI n2,K2]) (h1 : l1 < bx.length) (h2 : l2 < bx.length) (h3 : l3 < bx.length) (b1 : bx[l1]? = some (Nb N F)) (b2 : bx[l2]? = some [I s]) (b3 : bx[l3]? = some [I z])
  (hlk : ev cfg (.call 137 [Nq N F,I p] bx) = Rq (B vl)) :
  Jq (.call 136 [I p,.ptr l1 0,.ptr l2 0,.ptr l3 0] bx) = Rq (B (!vl || ((kd == 1 && (p : Int) != s) || (kd == 2 && (p : Int) != z)))) := by
 obtain ⟨w,g1,g2,g3⟩ := hN
 obtain rfl := isS_w g2 hp
 have l2 : p < nr.length := (gsi.1 hp).1
 cases vl <;> cases c1 : (kd == 1) <;> cases c2 : ((p : Int) != s) <;> cases c3 : (kd == 2) <;> cases c4 : ((p : Int) != z) <;> simp only [go_sem,seval,g1,g3,hF,hp,l2,h1,h2,h3,b1,b2,b3,hlk,nat_neg,tnc,c1,c2,c3,c4]
theorem third_f0 {s z : Int} (hN : IsS 5 nr N) (hF : Oq F) (hs : Cq 114 [Nq N F] (I s)) (hz : Cq 115 [Nq N F] (I z))
  (hpl : ev cfg (.call 107 [I 3,I nr.length,.clo 136 [bx.length,bx.length + 1,bx.length + 2]] (bx ++ [Nb N F,[I s],[I z]])) = Rq (.dat .nil)) :
  Jq (.call 112 [Nq N F] bx) = Rq (if (decide (s < 0) || decide (z < 0)) = true then .own true 2 [[dI 3,dI nr.length]] else .dat .nil) := by
 obtain ⟨w,g1,g2,g3⟩ := hN
 cases c1 : decide (s < 0) <;> cases c2 : decide (z < 0) <;> simp only [go_sem,seval,g1,g3,hF,hs,hz,hpl,c1,c2]
theorem third_f1 {s z : Int} (hks : (rs.length + 1) * 16 <= 140737488355328) (hN : IsS 5 nr N) (hF : Oq F) (hs : Cq 114 [Nq N F] (I s)) (hz : Cq 115 [Nq N F] (I z))
  (hpl : ev cfg (.call 107 [I 3,I nr.length,.clo 136 [bx.length,bx.length + 1,bx.length + 2]] (bx ++ [Nb N F,[I s],[I z]])) = Rq (.own true 2 rs)) :
  Jq (.call 112 [Nq N F] bx) = Rq (.own true 2 (if (decide (s < 0) || decide (z < 0)) = true then rs ++ [[dI 3,dI nr.length]] else rs)) := by
 obtain ⟨w,g1,g2,g3⟩ := hN
 cases c1 : decide (s < 0) <;> cases c2 : decide (z < 0) <;> simp only [go_sem,seval,g1,g3,hF,hs,hz,hpl,c1,c2,hks]
end
end Go.Proofs.YtifckjhggamefaaGreatDoor
