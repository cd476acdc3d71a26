/- Rounds of the reference of layer 5: none, of, one, Ins, Outs, First. No condition. -/
import Derived.Test.YtifckjhggamefaaGreatDoorQb
set_option linter.unusedSimpArgs false
set_option linter.unusedVariables false
set_option linter.unusedSectionVars false
namespace Go.Proofs.YtifckjhggamefaaGreatDoor
open Go Go.Vx
set_option maxHeartbeats 4000000
set_option maxRecDepth 10000
section
variable {bx : List Box} {c : Box} {nr fr r rs : List (List D)} {N F K : D} {i j : Nat} {k a op n f t : Int} {e v : Bool}
theorem rnone_r (hK : IsS 3 r K) : Jq (.call 70 [Tq op n K] bx) = Rq (B (op == 0 && (n == 0 && (r.length : Int) == 0))) := by
 obtain ⟨w,h1,h2,h3⟩ := hK
 cases c1 : (op == 0) <;> cases c2 : (n == 0) <;> simp only [go_sem,seval,h1,h3,c1,c2]
theorem rof_r {ty er kind : Int} (hK : Oq K) (hc : Cq 117 [Tq op n K] (.tup [I ty,I er])) :
  Jq (.call 69 [Tq op n K,I kind] bx) = Rq (B (er == 0 && ty == kind)) := by
 cases c1 : (er == 0) <;> simp only [go_sem,seval,hK,hc,c1]
theorem rone_bad (hK : Oq K) (hb : (decide (k < 1) || (decide (k > 8) || decide (a < 0))) = true) :
  Jq (.call 37 [.agg [I k,I a,I op,I n,.dat K]] bx) = Rq (B (false)) := by
 cases c0 : decide (k < 1)
 ·cases c1 : decide (k > 8)
  ·cases c2 : decide (a < 0)
   ·simp only [c0,c1,c2,Bool.false_and,Bool.true_and,Bool.and_false,Bool.and_true,Bool.false_or,Bool.or_false,Bool.true_or,Bool.or_true,Bool.false_eq_true,Bool.true_eq_false] at hb
   ·simp only [go_sem,seval,hK,c0,c1,c2]
  ·simp only [go_sem,seval,hK,c0,c1]
 ·simp only [go_sem,seval,hK,c0]
theorem rone_4 (hK : Oq K) (h : decide (a < 0) = false) (hn : Cq 69 [Tq op n K,I 1] (B v)) :
  Jq (.call 37 [.agg [I 4,I a,I op,I n,.dat K]] bx) = Rq (B (decide (a < 4) && v)) := by
 cases c0 : decide (a < 4)
 ·simp only [go_sem,seval,hK,hn,h,c0]
 ·simp only [go_sem,seval,hK,hn,h,c0]
theorem rone_3 (hK : Oq K) (h : decide (a < 0) = false) (hn : Cq 70 [Tq op n K] (B v)) :
  Jq (.call 37 [.agg [I 3,I a,I op,I n,.dat K]] bx) = Rq (B (decide (a <= 3) && v)) := by
 cases c0 : decide (a <= 3)
 ·simp only [go_sem,seval,hK,hn,h,c0]
 ·simp only [go_sem,seval,hK,hn,h,c0]
theorem rone_8 (hK : Oq K) (h : decide (a < 0) = false) (hn : Cq 70 [Tq op n K] (B v)) :
  Jq (.call 37 [.agg [I 8,I a,I op,I n,.dat K]] bx) = Rq (B (decide (a <= 4) && v)) := by
 cases c0 : decide (a <= 4)
 ·simp only [go_sem,seval,hK,hn,h,c0]
 ·simp only [go_sem,seval,hK,hn,h,c0]
theorem rone_o (hK : Oq K) (h1 : decide (k < 1) = false) (h2 : decide (k > 8) = false) (h : decide (a < 0) = false) (k4 : (k == 4) = false) (k3 : (k == 3) = false) (k8 : (k == 8) = false) (hn : Cq 70 [Tq op n K] (B v)) :
  Jq (.call 37 [.agg [I k,I a,I op,I n,.dat K]] bx) = Rq (B (decide (a <= 0) && v)) := by
 cases c0 : decide (a <= 0)
 ·simp only [go_sem,seval,hK,hn,h,h1,h2,k4,k3,k8,c0]
 ·simp only [go_sem,seval,hK,hn,h,h1,h2,k4,k3,k8,c0]
theorem rins_round0 {q : Int} (hF : IsS 6 fr F) (hc : c.all (cellLt (bx.length + 1)) = true) (hget : fr[i]? = some [dI f,dI t,.lit (.bool e),dI op,dI n,K]) (hlt : i < fr.length) (hmax : fr.length < 9223372036854775808) (hk : Oq K) :
  Jq (.loop 54 3 (qs bx (sh54_3 (I q) (.dat .nil) (.dat F) (I fr.length) (I i)) [c])) =
   ev cfg (.loop 54 3 (qs bx (sh54_3 (I q) ((if (t == q) = true then .own true 1 [[dI i]] else .dat .nil)) (.dat F) (I fr.length) (I ((i + 1 : Nat) : Int))) [c])) := by
 obtain ⟨w,h1,h2,h3⟩ := hF
 obtain rfl := isS_w h2 hget
 cases c0 : (t == q) <;> simp only [go_sem,seval,h1,h3,hk,hc,nat_lt hlt,nat_neg,tnc,hget,nat_succ hlt hmax,c0]
theorem rins_round1 {q : Int} (hF : IsS 6 fr F) (hc : c.all (cellLt (bx.length + 1)) = true) (hget : fr[i]? = some [dI f,dI t,.lit (.bool e),dI op,dI n,K]) (hlt : i < fr.length) (hmax : fr.length < 9223372036854775808) (hk : Oq K) (hks : (rs.length + 1) * 8 <= 140737488355328) :
  Jq (.loop 54 3 (qs bx (sh54_3 (I q) (.own true 1 rs) (.dat F) (I fr.length) (I i)) [c])) =
   ev cfg (.loop 54 3 (qs bx (sh54_3 (I q) ((.own true 1 (if (t == q) = true then rs ++ [[dI i]] else rs))) (.dat F) (I fr.length) (I ((i + 1 : Nat) : Int))) [c])) := by
 obtain ⟨w,h1,h2,h3⟩ := hF
 obtain rfl := isS_w h2 hget
 cases c0 : (t == q) <;> simp only [go_sem,seval,h1,h3,hk,hc,nat_lt hlt,nat_neg,tnc,hget,nat_succ hlt hmax,c0,hks]
theorem rins_end {q : Int} {m : Nat} (hF : Oq F) (hc : c.all (cellLt (bx.length + 1)) = true) (hge : m <= i) :
  Jq (.loop 54 3 (qs bx (sh54_3 (I q) (mkS 1 rs) (.dat F) (I m) (I i)) [c])) = some (.loop (.exit 0) (qs bx (se54_3 (mkS 1 rs)) [c])) := by
 cases rs <;> simp only [go_sem,seval,mkS,hF,nat_ge hge,hc]
theorem rins_f {q : Int} (hN : Oq N) (hF : IsS 6 fr F)
  (hloop : ∀ c : Box,c.all (cellLt (bx.length + 1)) = true -> ev cfg (.loop 54 3 (qs bx (sh54_3 (I q) (.dat .nil) (.dat F) (I fr.length) (I 0)) [c])) = some (.loop (.exit 0) (qs bx (se54_3 (mkS 1 rs)) [c]))) :
  Jq (.call 54 [Nq N F,I q] bx) = Rq (.dat (mkD 1 rs)) := by
 obtain ⟨w,h1,h2,h3⟩ := hF
 have hloop' := hloop (Nb N F) (by simp [cellLt])
 cases rs <;> simp only [mkS] at hloop' <;> simp only [go_sem,seval,mkD,h1,h3,hN,hloop']
theorem routs_round0 {q : Int} (hF : IsS 6 fr F) (hc : c.all (cellLt (bx.length + 1)) = true) (hget : fr[i]? = some [dI f,dI t,.lit (.bool e),dI op,dI n,K]) (hlt : i < fr.length) (hmax : fr.length < 9223372036854775808) (hk : Oq K) :
  Jq (.loop 55 3 (qs bx (sh55_3 (I q) (.dat .nil) (.dat F) (I fr.length) (I i)) [c])) =
   ev cfg (.loop 55 3 (qs bx (sh55_3 (I q) ((if (f == q) = true then .own true 1 [[dI i]] else .dat .nil)) (.dat F) (I fr.length) (I ((i + 1 : Nat) : Int))) [c])) := by
 obtain ⟨w,h1,h2,h3⟩ := hF
 obtain rfl := isS_w h2 hget
 cases c0 : (f == q) <;> simp only [go_sem,seval,h1,h3,hk,hc,nat_lt hlt,nat_neg,tnc,hget,nat_succ hlt hmax,c0]
theorem routs_round1 {q : Int} (hF : IsS 6 fr F) (hc : c.all (cellLt (bx.length + 1)) = true) (hget : fr[i]? = some [dI f,dI t,.lit (.bool e),dI op,dI n,K]) (hlt : i < fr.length) (hmax : fr.length < 9223372036854775808) (hk : Oq K) (hks : (rs.length + 1) * 8 <= 140737488355328) :
  Jq (.loop 55 3 (qs bx (sh55_3 (I q) (.own true 1 rs) (.dat F) (I fr.length) (I i)) [c])) =
   ev cfg (.loop 55 3 (qs bx (sh55_3 (I q) ((.own true 1 (if (f == q) = true then rs ++ [[dI i]] else rs))) (.dat F) (I fr.length) (I ((i + 1 : Nat) : Int))) [c])) := by
 obtain ⟨w,h1,h2,h3⟩ := hF
 obtain rfl := isS_w h2 hget
 cases c0 : (f == q) <;> simp only [go_sem,seval,h1,h3,hk,hc,nat_lt hlt,nat_neg,tnc,hget,nat_succ hlt hmax,c0,hks]
theorem routs_end {q : Int} {m : Nat} (hF : Oq F) (hc : c.all (cellLt (bx.length + 1)) = true) (hge : m <= i) :
  Jq (.loop 55 3 (qs bx (sh55_3 (I q) (mkS 1 rs) (.dat F) (I m) (I i)) [c])) = some (.loop (.exit 0) (qs bx (se55_3 (mkS 1 rs)) [c])) := by
 cases rs <;> simp only [go_sem,seval,mkS,hF,nat_ge hge,hc]
theorem routs_f {q : Int} (hN : Oq N) (hF : IsS 6 fr F)
  (hloop : ∀ c : Box,c.all (cellLt (bx.length + 1)) = true -> ev cfg (.loop 55 3 (qs bx (sh55_3 (I q) (.dat .nil) (.dat F) (I fr.length) (I 0)) [c])) = some (.loop (.exit 0) (qs bx (se55_3 (mkS 1 rs)) [c]))) :
  Jq (.call 55 [Nq N F,I q] bx) = Rq (.dat (mkD 1 rs)) := by
 obtain ⟨w,h1,h2,h3⟩ := hF
 have hloop' := hloop (Nb N F) (by simp [cellLt])
 cases rs <;> simp only [mkS] at hloop' <;> simp only [go_sem,seval,mkD,h1,h3,hN,hloop']
theorem rfirst_round {q : Int} (hN : IsS 5 nr N) (hF : Oq F) (hc : c.all (cellLt (bx.length + 1)) = true) (hget : nr[i]? = some [dI k,dI a,dI op,dI n,K]) (hlt : i < nr.length) (hmax : nr.length < 9223372036854775808) (hk : Oq K) :
  Jq (.loop 39 2 (qs bx (sh39_2 (I q) (.dat N) (I nr.length) (I i)) [c])) =
   if (k == q) = true then some (.loop .ret (qs bx (se39_2 (I i)) [c])) else ev cfg (.loop 39 2 (qs bx (sh39_2 (I q) (.dat N) (I nr.length) (I ((i + 1 : Nat) : Int))) [c])) := by
 obtain ⟨w,h1,h2,h3⟩ := hN
 obtain rfl := isS_w h2 hget
 cases c0 : (k == q) <;> simp only [go_sem,seval,h1,h3,hF,hk,hc,nat_lt hlt,nat_neg,tnc,hget,nat_succ hlt hmax,c0]
theorem rfirst_end {q : Int} {m : Nat} (hN : Oq N) (hc : c.all (cellLt (bx.length + 1)) = true) (hge : m <= i) :
  Jq (.loop 39 2 (qs bx (sh39_2 (I q) (.dat N) (I m) (I i)) [c])) = some (.loop (.exit 0) (qs bx (se39_2 .dead) [c])) := by
 simp only [go_sem,seval,hN,hc,nat_ge hge]
theorem rfirst_f {q : Int} {y : Option Int} (hN : IsS 5 nr N) (hF : Oq F)
  (hloop : ∀ c : Box,c.all (cellLt (bx.length + 1)) = true -> ev cfg (.loop 39 2 (qs bx (sh39_2 (I q) (.dat N) (I nr.length) (I 0)) [c])) = some (match y with
   | some j => .loop .ret (qs bx (se39_2 (I j)) [c])
   | none => .loop (.exit 0) (qs bx (se39_2 .dead) [c]))) :
  Jq (.call 39 [Nq N F,I q] bx) = Rq (I (y.getD (-1))) := by
 obtain ⟨w,h1,h2,h3⟩ := hN
 have hloop' := hloop (Nb N F) (by simp [cellLt])
 cases y <;> simp only at hloop' <;> simp only [go_sem,seval,h1,h3,hF,hloop']
end
set_option maxHeartbeats 8000000
section
variable {bx : List Box} {nr ors : List (List D)} {N F K K2 X : D} {p : Nat} {k a op n f t op2 n2 : Int} {e v : Bool}
theorem rtwo_bad (hN : IsS 5 nr N) (hF : Oq F) (hK : Oq K) (hb : (decide (f < 0) || (decide (f >= (nr.length : Int)) || (decide (t < 0) || (decide (t >= (nr.length : Int)) || f == t)))) = true) :
  Jq (.call 38 [Nq N F,.agg [I f,I t,B e,I op,I n,.dat K]] bx) = Rq (B (false)) := by
 obtain ⟨w,h1,h2,h3⟩ := hN
 cases c0 : decide (f < 0)
 ·cases c1 : decide (f >= (nr.length : Int))
  ·cases c2 : decide (t < 0)
   ·cases c3 : decide (t >= (nr.length : Int))
    ·cases c4 : (f == t)
     ·simp only [c0,c1,c2,c3,c4,Bool.false_and,Bool.true_and,Bool.and_false,Bool.and_true,Bool.false_or,Bool.or_false,Bool.true_or,Bool.or_true,Bool.false_eq_true,Bool.true_eq_false] at hb
     ·simp only [go_sem,seval,h1,h3,hF,hK,nat_neg,tnc,c0,c1,c2,c3,c4]
    ·simp only [go_sem,seval,h1,h3,hF,hK,nat_neg,tnc,c0,c1,c2,c3]
   ·simp only [go_sem,seval,h1,h3,hF,hK,nat_neg,tnc,c0,c1,c2]
  ·simp only [go_sem,seval,h1,h3,hF,hK,nat_neg,tnc,c0,c1]
 ·simp only [go_sem,seval,h1,h3,hF,hK,nat_neg,tnc,c0]
theorem rtwo_o {v2 : Bool} (hN : IsS 5 nr N) (hF : Oq F) (hK : Oq K) (hp : nr[p]? = some [dI k,dI a,dI op2,dI n2,K2]) (b1 : decide ((p : Int) < 0) = false) (b2 : decide ((p : Int) >= (nr.length : Int)) = false) (b3 : decide (t < 0) = false) (b4 : decide (t >= (nr.length : Int)) = false) (b5 : ((p : Int) == t) = false) (k5 : (k == 5) = false) (hn : Cq 70 [Tq op n K] (B v)) :
  Jq (.call 38 [Nq N F,.agg [I p,I t,B e,I op,I n,.dat K]] bx) = Rq (B (!e && v)) := by
 obtain ⟨w,h1,h2,h3⟩ := hN
 obtain rfl := isS_w h2 hp
 have lp : p < nr.length := (gsi.1 hp).1
 have k5' : (k != 5) = true := by rw [bne,k5]; rfl
 skip
 cases e
 ·simp only [go_sem,seval,h1,h3,hF,hK,nat_neg,tnc,hp,lp,b1,b2,b3,b4,b5,hn,k5,k5']
 ·simp only [go_sem,seval,h1,h3,hF,hK,nat_neg,tnc,hp,lp,b1,b2,b3,b4,b5,hn,k5,k5']
theorem rtwo_5 {v2 : Bool} (hN : IsS 5 nr N) (hF : Oq F) (hK : Oq K) (hp : nr[p]? = some [dI 5,dI a,dI op2,dI n2,K2]) (b1 : decide ((p : Int) < 0) = false) (b2 : decide ((p : Int) >= (nr.length : Int)) = false) (b3 : decide (t < 0) = false) (b4 : decide (t >= (nr.length : Int)) = false) (b5 : ((p : Int) == t) = false) (hX : IsS 1 ors X) (hO : Cq 55 [Nq N F,I p] (.dat X)) (hn : Cq 70 [Tq op n K] (B v)) (ho : Cq 69 [Tq op n K,I 2] (B v2)) :
  Jq (.call 38 [Nq N F,.agg [I p,I t,B e,I op,I n,.dat K]] bx) = Rq (B (if (ors.length : Int) >= 2 then (if e = true then v else v2) else !e && v)) := by
 obtain ⟨w,h1,h2,h3⟩ := hN
 obtain rfl := isS_w h2 hp
 have lp : p < nr.length := (gsi.1 hp).1
 obtain ⟨x,x1,x2,x3⟩ := hX
 by_cases g : (ors.length : Int) >= 2
 ·have z2 : decide ((ors.length : Int) >= 2) = true := dqt g
  have z3 : decide ((ors.length : Int) < 2) = false := dqf (by omega)
  rw [if_pos g]
  cases e <;> simp only [go_sem,seval,h1,h3,hF,hK,nat_neg,tnc,hp,lp,b1,b2,b3,b4,b5,hn,ho,hO,x1,x3,z2,z3]
 ·have z2 : decide ((ors.length : Int) >= 2) = false := dqf g
  have z3 : decide ((ors.length : Int) < 2) = true := dqt (by omega)
  rw [if_neg g]
  cases e <;> simp only [go_sem,seval,h1,h3,hF,hK,nat_neg,tnc,hp,lp,b1,b2,b3,b4,b5,hn,ho,hO,x1,x3,z2,z3]
end
section
variable {bx : List Box} {nr fr ors irs : List (List D)} {N F K K2 X Y : D} {i j p q : Nat} {k a op n f op2 n2 el ot : Int} {e : Bool}
theorem rthree_round (hN : IsS 5 nr N) (hF : IsS 6 fr F) (hX : IsS 1 ors X) (hget : ors[i]? = some [dI j]) (hj : fr[j]? = some [dI f,dI q,.lit (.bool e),dI op,dI n,K]) (hp : nr[q]? = some [dI k,dI a,dI op2,dI n2,K2]) (hlt : i < ors.length) (hmax : ors.length < 9223372036854775808) (w1 : IntKind.wrap .i64 (el + 1) = el + 1) (w2 : IntKind.wrap .i64 (ot + 1) = ot + 1) :
  Jq (.loop 40 7 (qs bx (sh40_7 (I p) (P0 bx) (I irs.length) (I ors.length) (I el) (I ot) (.dat X) (I ors.length) (I i)) [Nb N F])) =
   ev cfg (.loop 40 7 (qs bx (sh40_7 (I p) (P0 bx) (I irs.length) (I ors.length) (I (if e = true then el + 1 else el)) (I (if (k != 8) = true then ot + 1 else ot)) (.dat X) (I ors.length) (I ((i + 1 : Nat) : Int))) [Nb N F])) := by
 obtain ⟨w,h1,h2,h3⟩ := hN
 obtain rfl := isS_w h2 hp
 obtain ⟨w,g1,g2,g3⟩ := hF
 obtain rfl := isS_w g2 hj
 obtain ⟨w,q1,q2,q3⟩ := hX
 obtain rfl := isS_w q2 hget
 have l1 : j < fr.length := (gsi.1 hj).1
 have l2 : q < nr.length := (gsi.1 hp).1
 cases e <;> cases c0 : (k != 8) <;> simp only [go_sem,seval,h1,h3,g1,g3,q1,q3,hget,hj,hp,l1,l2,nat_lt hlt,nat_neg,tnc,w1,w2,nat_succ hlt hmax,c0]
theorem rthree_end {m : Nat} (hN : Oq N) (hF : Oq F) (hX : Oq X) (hge : m <= i) :
  Jq (.loop 40 7 (qs bx (sh40_7 (I p) (P0 bx) (I irs.length) (I ors.length) (I el) (I ot) (.dat X) (I m) (I i)) [Nb N F])) =
   some (.loop (.exit 0) (qs bx (se40_7 (I p) (P0 bx) (I irs.length) (I ors.length) (I el) (I ot)) [Nb N F])) := by
 simp only [go_sem,seval,hN,hF,hX,nat_ge hge]
theorem rthree_1 (hN : IsS 5 nr N) (hF : Oq F) (hX : IsS 1 ors X) (hY : IsS 1 irs Y) (hp : nr[p]? = some [dI 1,dI a,dI op2,dI n2,K2])
  (hO : Cq 55 [Nq N F,I p] (.dat X)) (hI : Cq 54 [Nq N F,I p] (.dat Y))
  (hloop : ev cfg (.loop 40 7 (qs bx (sh40_7 (I p) (P0 bx) (I irs.length) (I ors.length) (I 0) (I 0) (.dat X) (I ors.length) (I 0)) [Nb N F])) =
   some (.loop (.exit 0) (qs bx (se40_7 (I p) (P0 bx) (I irs.length) (I ors.length) (I el) (I ot)) [Nb N F]))) :
  Jq (.call 40 [Nq N F,I p] bx) = Rq (B (((irs.length : Int) == 0) && ((ors.length : Int) == 1))) := by
 obtain ⟨w,h1,h2,h3⟩ := hN
 obtain rfl := isS_w h2 hp
 obtain ⟨w',g1,g2,g3⟩ := hX
 obtain ⟨w'',q1,q2,q3⟩ := hY
 have l2 : p < nr.length := (gsi.1 hp).1
 cases c0 : ((irs.length : Int) == 0)
 ·simp only [go_sem,seval,h1,h3,g1,g3,q1,q3,hF,hp,l2,hO,hI,hloop,nat_neg,tnc,c0]
 ·cases c1 : ((ors.length : Int) == 1)
  ·simp only [go_sem,seval,h1,h3,g1,g3,q1,q3,hF,hp,l2,hO,hI,hloop,nat_neg,tnc,c0,c1]
  ·simp only [go_sem,seval,h1,h3,g1,g3,q1,q3,hF,hp,l2,hO,hI,hloop,nat_neg,tnc,c0,c1]
theorem rthree_2 (hN : IsS 5 nr N) (hF : Oq F) (hX : IsS 1 ors X) (hY : IsS 1 irs Y) (hp : nr[p]? = some [dI 2,dI a,dI op2,dI n2,K2])
  (hO : Cq 55 [Nq N F,I p] (.dat X)) (hI : Cq 54 [Nq N F,I p] (.dat Y))
  (hloop : ev cfg (.loop 40 7 (qs bx (sh40_7 (I p) (P0 bx) (I irs.length) (I ors.length) (I 0) (I 0) (.dat X) (I ors.length) (I 0)) [Nb N F])) =
   some (.loop (.exit 0) (qs bx (se40_7 (I p) (P0 bx) (I irs.length) (I ors.length) (I el) (I ot)) [Nb N F]))) :
  Jq (.call 40 [Nq N F,I p] bx) = Rq (B (((irs.length : Int) == 1) && ((ors.length : Int) == 0))) := by
 obtain ⟨w,h1,h2,h3⟩ := hN
 obtain rfl := isS_w h2 hp
 obtain ⟨w',g1,g2,g3⟩ := hX
 obtain ⟨w'',q1,q2,q3⟩ := hY
 have l2 : p < nr.length := (gsi.1 hp).1
 cases c0 : ((irs.length : Int) == 1)
 ·simp only [go_sem,seval,h1,h3,g1,g3,q1,q3,hF,hp,l2,hO,hI,hloop,nat_neg,tnc,c0]
 ·cases c1 : ((ors.length : Int) == 0)
  ·simp only [go_sem,seval,h1,h3,g1,g3,q1,q3,hF,hp,l2,hO,hI,hloop,nat_neg,tnc,c0,c1]
  ·simp only [go_sem,seval,h1,h3,g1,g3,q1,q3,hF,hp,l2,hO,hI,hloop,nat_neg,tnc,c0,c1]
theorem rthree_7 (hN : IsS 5 nr N) (hF : Oq F) (hX : IsS 1 ors X) (hY : IsS 1 irs Y) (hp : nr[p]? = some [dI 7,dI a,dI op2,dI n2,K2])
  (hO : Cq 55 [Nq N F,I p] (.dat X)) (hI : Cq 54 [Nq N F,I p] (.dat Y))
  (hloop : ev cfg (.loop 40 7 (qs bx (sh40_7 (I p) (P0 bx) (I irs.length) (I ors.length) (I 0) (I 0) (.dat X) (I ors.length) (I 0)) [Nb N F])) =
   some (.loop (.exit 0) (qs bx (se40_7 (I p) (P0 bx) (I irs.length) (I ors.length) (I el) (I ot)) [Nb N F]))) :
  Jq (.call 40 [Nq N F,I p] bx) = Rq (B (((irs.length : Int) == 1) && (decide ((ors.length : Int) >= 2) && (ot == 0)))) := by
 obtain ⟨w,h1,h2,h3⟩ := hN
 obtain rfl := isS_w h2 hp
 obtain ⟨w',g1,g2,g3⟩ := hX
 obtain ⟨w'',q1,q2,q3⟩ := hY
 have l2 : p < nr.length := (gsi.1 hp).1
 cases c0 : ((irs.length : Int) == 1)
 ·simp only [go_sem,seval,h1,h3,g1,g3,q1,q3,hF,hp,l2,hO,hI,hloop,nat_neg,tnc,c0]
 ·cases c1 : decide ((ors.length : Int) >= 2)
  ·simp only [go_sem,seval,h1,h3,g1,g3,q1,q3,hF,hp,l2,hO,hI,hloop,nat_neg,tnc,c0,c1]
  ·cases c2 : (ot == 0)
   ·simp only [go_sem,seval,h1,h3,g1,g3,q1,q3,hF,hp,l2,hO,hI,hloop,nat_neg,tnc,c0,c1,c2]
   ·simp only [go_sem,seval,h1,h3,g1,g3,q1,q3,hF,hp,l2,hO,hI,hloop,nat_neg,tnc,c0,c1,c2]
theorem rthree_o (k1 : (k == 1) = false) (k2 : (k == 2) = false) (k5 : (k == 5) = false) (k6 : (k == 6) = false) (k7 : (k == 7) = false) (hN : IsS 5 nr N) (hF : Oq F) (hX : IsS 1 ors X) (hY : IsS 1 irs Y) (hp : nr[p]? = some [dI k,dI a,dI op2,dI n2,K2])
  (hO : Cq 55 [Nq N F,I p] (.dat X)) (hI : Cq 54 [Nq N F,I p] (.dat Y))
  (hloop : ev cfg (.loop 40 7 (qs bx (sh40_7 (I p) (P0 bx) (I irs.length) (I ors.length) (I 0) (I 0) (.dat X) (I ors.length) (I 0)) [Nb N F])) =
   some (.loop (.exit 0) (qs bx (se40_7 (I p) (P0 bx) (I irs.length) (I ors.length) (I el) (I ot)) [Nb N F]))) :
  Jq (.call 40 [Nq N F,I p] bx) = Rq (B (((irs.length : Int) == 1) && ((ors.length : Int) == 1))) := by
 obtain ⟨w,h1,h2,h3⟩ := hN
 obtain rfl := isS_w h2 hp
 obtain ⟨w',g1,g2,g3⟩ := hX
 obtain ⟨w'',q1,q2,q3⟩ := hY
 have l2 : p < nr.length := (gsi.1 hp).1
 cases c0 : ((irs.length : Int) == 1)
 ·simp only [go_sem,seval,h1,h3,g1,g3,q1,q3,hF,hp,l2,hO,hI,hloop,nat_neg,tnc,k1,k2,k5,k6,k7,c0]
 ·cases c1 : ((ors.length : Int) == 1)
  ·simp only [go_sem,seval,h1,h3,g1,g3,q1,q3,hF,hp,l2,hO,hI,hloop,nat_neg,tnc,k1,k2,k5,k6,k7,c0,c1]
  ·simp only [go_sem,seval,h1,h3,g1,g3,q1,q3,hF,hp,l2,hO,hI,hloop,nat_neg,tnc,k1,k2,k5,k6,k7,c0,c1]
end
section
variable {bx : List Box} {nr ors irs : List (List D)} {N F K2 X Y : D} {p : Nat} {a op2 n2 el ot : Int}
theorem rthree_6 (hN : IsS 5 nr N) (hF : Oq F) (hX : IsS 1 ors X) (hY : IsS 1 irs Y) (hp : nr[p]? = some [dI 6,dI a,dI op2,dI n2,K2])
  (hO : Cq 55 [Nq N F,I p] (.dat X)) (hI : Cq 54 [Nq N F,I p] (.dat Y))
  (hloop : ev cfg (.loop 40 7 (qs bx (sh40_7 (I p) (P0 bx) (I irs.length) (I ors.length) (I 0) (I 0) (.dat X) (I ors.length) (I 0)) [Nb N F])) =
   some (.loop (.exit 0) (qs bx (se40_7 (I p) (P0 bx) (I irs.length) (I ors.length) (I el) (I ot)) [Nb N F]))) :
  Jq (.call 40 [Nq N F,I p] bx) = Rq (B ((((irs.length : Int) == 1) && decide ((ors.length : Int) >= 2)) || (decide ((irs.length : Int) >= 2) && ((ors.length : Int) == 1)))) := by
 obtain ⟨w,h1,h2,h3⟩ := hN
 obtain rfl := isS_w h2 hp
 obtain ⟨w',g1,g2,g3⟩ := hX
 obtain ⟨w'',q1,q2,q3⟩ := hY
 have l2 : p < nr.length := (gsi.1 hp).1
 cases c0 : ((irs.length : Int) == 1)
 ·cases c1 : decide ((irs.length : Int) >= 2)
  ·simp only [go_sem,seval,h1,h3,g1,g3,q1,q3,hF,hp,l2,hO,hI,hloop,nat_neg,tnc,c0,c1]
  ·cases c2 : ((ors.length : Int) == 1)
   ·simp only [go_sem,seval,h1,h3,g1,g3,q1,q3,hF,hp,l2,hO,hI,hloop,nat_neg,tnc,c0,c1,c2]
   ·simp only [go_sem,seval,h1,h3,g1,g3,q1,q3,hF,hp,l2,hO,hI,hloop,nat_neg,tnc,c0,c1,c2]
 ·cases c1 : decide ((ors.length : Int) >= 2)
  ·cases c2 : decide ((irs.length : Int) >= 2)
   ·simp only [go_sem,seval,h1,h3,g1,g3,q1,q3,hF,hp,l2,hO,hI,hloop,nat_neg,tnc,c0,c1,c2]
   ·cases c3 : ((ors.length : Int) == 1)
    ·simp only [go_sem,seval,h1,h3,g1,g3,q1,q3,hF,hp,l2,hO,hI,hloop,nat_neg,tnc,c0,c1,c2,c3]
    ·simp only [go_sem,seval,h1,h3,g1,g3,q1,q3,hF,hp,l2,hO,hI,hloop,nat_neg,tnc,c0,c1,c2,c3]
  ·simp only [go_sem,seval,h1,h3,g1,g3,q1,q3,hF,hp,l2,hO,hI,hloop,nat_neg,tnc,c0,c1]
theorem rthree_5 (hN : IsS 5 nr N) (hF : Oq F) (hX : IsS 1 ors X) (hY : IsS 1 irs Y) (hp : nr[p]? = some [dI 5,dI a,dI op2,dI n2,K2])
  (hO : Cq 55 [Nq N F,I p] (.dat X)) (hI : Cq 54 [Nq N F,I p] (.dat Y))
  (hloop : ev cfg (.loop 40 7 (qs bx (sh40_7 (I p) (P0 bx) (I irs.length) (I ors.length) (I 0) (I 0) (.dat X) (I ors.length) (I 0)) [Nb N F])) =
   some (.loop (.exit 0) (qs bx (se40_7 (I p) (P0 bx) (I irs.length) (I ors.length) (I el) (I ot)) [Nb N F]))) :
  Jq (.call 40 [Nq N F,I p] bx) = Rq (B ((((irs.length : Int) == 1) && (decide ((ors.length : Int) >= 2) && (el == 1))) || (decide ((irs.length : Int) >= 2) && ((ors.length : Int) == 1)))) := by
 obtain ⟨w,h1,h2,h3⟩ := hN
 obtain rfl := isS_w h2 hp
 obtain ⟨w',g1,g2,g3⟩ := hX
 obtain ⟨w'',q1,q2,q3⟩ := hY
 have l2 : p < nr.length := (gsi.1 hp).1
 cases c0 : ((irs.length : Int) == 1)
 ·cases c1 : decide ((irs.length : Int) >= 2)
  ·simp only [go_sem,seval,h1,h3,g1,g3,q1,q3,hF,hp,l2,hO,hI,hloop,nat_neg,tnc,c0,c1]
  ·cases c2 : ((ors.length : Int) == 1)
   ·simp only [go_sem,seval,h1,h3,g1,g3,q1,q3,hF,hp,l2,hO,hI,hloop,nat_neg,tnc,c0,c1,c2]
   ·simp only [go_sem,seval,h1,h3,g1,g3,q1,q3,hF,hp,l2,hO,hI,hloop,nat_neg,tnc,c0,c1,c2]
 ·cases c1 : decide ((ors.length : Int) >= 2)
  ·cases c2 : decide ((irs.length : Int) >= 2)
   ·simp only [go_sem,seval,h1,h3,g1,g3,q1,q3,hF,hp,l2,hO,hI,hloop,nat_neg,tnc,c0,c1,c2]
   ·cases c3 : ((ors.length : Int) == 1)
    ·simp only [go_sem,seval,h1,h3,g1,g3,q1,q3,hF,hp,l2,hO,hI,hloop,nat_neg,tnc,c0,c1,c2,c3]
    ·simp only [go_sem,seval,h1,h3,g1,g3,q1,q3,hF,hp,l2,hO,hI,hloop,nat_neg,tnc,c0,c1,c2,c3]
  ·cases c2 : (el == 1)
   ·cases c3 : decide ((irs.length : Int) >= 2)
    ·simp only [go_sem,seval,h1,h3,g1,g3,q1,q3,hF,hp,l2,hO,hI,hloop,nat_neg,tnc,c0,c1,c2,c3]
    ·cases c4 : ((ors.length : Int) == 1)
     ·simp only [go_sem,seval,h1,h3,g1,g3,q1,q3,hF,hp,l2,hO,hI,hloop,nat_neg,tnc,c0,c1,c2,c3,c4]
     ·simp only [go_sem,seval,h1,h3,g1,g3,q1,q3,hF,hp,l2,hO,hI,hloop,nat_neg,tnc,c0,c1,c2,c3,c4]
   ·simp only [go_sem,seval,h1,h3,g1,g3,q1,q3,hF,hp,l2,hO,hI,hloop,nat_neg,tnc,c0,c1,c2]
end
end Go.Proofs.YtifckjhggamefaaGreatDoor
