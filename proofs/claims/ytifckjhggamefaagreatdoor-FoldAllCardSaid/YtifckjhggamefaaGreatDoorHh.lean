/- Rounds of package net's functions: All, Check. No condition. -/
import Derived.Test.YtifckjhggamefaaGreatDoorQb
set_option linter.unusedSimpArgs false
set_option linter.unusedVariables false
set_option linter.unusedSectionVars false
namespace Go.Proofs.YtifckjhggamefaaGreatDoor
open Go Go.Vx
set_option maxHeartbeats 4000000
set_option maxRecDepth 10000
section
variable {bx : List Box} {nr fr sr tr rs : List (List D)} {N F K : D} {p l l1 l2 : Nat} {k a f t op n s z : Int} {e v x y : Bool}
theorem all1_f (hN : IsS 5 nr N) (hF : Oq F) (hl : l < bx.length) (hb : bx[l]? = some (Nb N F)) (hp : nr[p]? = some [dI k,dI a,dI op,dI n,K]) (hK : Oq K) (hr : Cq 109 [.agg [I k,I a,I op,I n,.dat K]] (B v)) :
  Jq (.call 108 [I p,.ptr l 0] bx) = Rq (B (!v)) := by
 obtain ⟨w,h1,h2,h3⟩ := hN
 obtain rfl := isS_w h2 hp
 have l2 : p < nr.length := (gsi.1 hp).1
 simp only [go_sem,seval,h1,h3,hF,hl,hb,hp,l2,hK,hr,nat_neg,tnc]
theorem all2_f (hN : Oq N) (hF : IsS 6 fr F) (hl : l < bx.length) (hb : bx[l]? = some (Nb N F)) (hp : fr[p]? = some [dI f,dI t,.lit (.bool e),dI op,dI n,K]) (hK : Oq K) (hr : Cq 111 [Nq N F,.agg [I f,I t,B e,I op,I n,.dat K]] (B v)) :
  Jq (.call 110 [I p,.ptr l 0] bx) = Rq (B (!v)) := by
 obtain ⟨w,h1,h2,h3⟩ := hF
 obtain rfl := isS_w h2 hp
 have l2 : p < fr.length := (gsi.1 hp).1
 simp only [go_sem,seval,h1,h3,hN,hl,hb,hp,l2,hK,hr,nat_neg,tnc]
theorem all3_f (h1 : l1 < bx.length) (h2 : l2 < bx.length) (b1 : bx[l1]? = some [.dat (.sl 1 sr)]) (b2 : bx[l2]? = some [.dat (.sl 1 tr)]) (hs : sr[p]? = some [.lit (.bool x)]) (ht : tr[p]? = some [.lit (.bool y)]) :
  Jq (.call 116 [I p,.ptr l1 0,.ptr l2 0] bx) = Rq (B (!x || !y)) := by
 have q1 : p < sr.length := (gsi.1 hs).1
 have q2 : p < tr.length := (gsi.1 ht).1
 cases x <;> simp only [go_sem,seval,h1,h2,b1,b2,hs,ht,q1,q2,nat_neg,tnc]
theorem all_big (hN : IsS 5 nr N) (hF : IsS 6 fr F) (hb : (decide ((nr.length : Int) > 24) || decide ((fr.length : Int) > 40)) = true) :
  Jq (.call 68 [Nq N F] bx) = Rq (.own true 2 [[dI 1,dI 0]]) := by
 obtain ⟨w,h1,h2,h3⟩ := hN
 obtain ⟨w,g1,g2,g3⟩ := hF
 cases c1 : decide ((nr.length : Int) > 24)
 ·rw [c1,Bool.false_or] at hb
  simp only [go_sem,seval,h1,h3,g1,g3,c1,hb]
 ·simp only [go_sem,seval,h1,h3,g1,g3,c1]
section
variable (hN : IsS 5 nr N) (hF : IsS 6 fr F) (c1 : decide ((nr.length : Int) > 24) = false) (c2 : decide ((fr.length : Int) > 40) = false) (hrs : decide ((rs.length : Int) > 0) = true)
include hN hF c1 c2
include hrs in
theorem all_1 (hpl : ev cfg (.call 107 [I 1,I nr.length,.clo 108 [bx.length]] (bx ++ [Nb N F])) = Rq (.own true 2 rs)) :
  Jq (.call 68 [Nq N F] bx) = Rq (.own true 2 rs) := by
 obtain ⟨w,h1,h2,h3⟩ := hN
 obtain ⟨w,g1,g2,g3⟩ := hF
 simp only [go_sem,seval,h1,h3,g1,g3,c1,c2,hpl,hrs]
include hrs in
theorem all_2 (hpl : ev cfg (.call 107 [I 1,I nr.length,.clo 108 [bx.length]] (bx ++ [Nb N F])) = Rq (.dat .nil))
  (hpl2 : ev cfg (.call 107 [I 2,I fr.length,.clo 110 [bx.length]] (bx ++ [Nb N F])) = Rq (.own true 2 rs)) :
  Jq (.call 68 [Nq N F] bx) = Rq (.own true 2 rs) := by
 obtain ⟨w,h1,h2,h3⟩ := hN
 obtain ⟨w,g1,g2,g3⟩ := hF
 have z0 : decide (((0 : Nat) : Int) > 0) = false := by decide
 simp only [go_sem,seval,h1,h3,g1,g3,c1,c2,hpl,hpl2,hrs,z0]
include hrs in
theorem all_3 (hpl : ev cfg (.call 107 [I 1,I nr.length,.clo 108 [bx.length]] (bx ++ [Nb N F])) = Rq (.dat .nil))
  (hpl2 : ev cfg (.call 107 [I 2,I fr.length,.clo 110 [bx.length]] (bx ++ [Nb N F])) = Rq (.dat .nil))
  (h3d : Cq 112 [Nq N F] (.own true 2 rs)) :
  Jq (.call 68 [Nq N F] bx) = Rq (.own true 2 rs) := by
 obtain ⟨w,h1,h2,h3⟩ := hN
 obtain ⟨w,g1,g2,g3⟩ := hF
 have z0 : decide (((0 : Nat) : Int) > 0) = false := by decide
 simp only [go_sem,seval,h1,h3,g1,g3,c1,c2,hpl,hpl2,h3d,hrs,z0]
theorem all_4 {Z : PV} (hZ : Z = mkS 2 rs) (hpl : ev cfg (.call 107 [I 1,I nr.length,.clo 108 [bx.length]] (bx ++ [Nb N F])) = Rq (.dat .nil))
  (hpl2 : ev cfg (.call 107 [I 2,I fr.length,.clo 110 [bx.length]] (bx ++ [Nb N F])) = Rq (.dat .nil))
  (h3d : Cq 112 [Nq N F] (.dat .nil))
  (hst : Cq 114 [Nq N F] (I s)) (hen : Cq 115 [Nq N F] (I z))
  (hm1 : Cq 113 [Nq N F,I s,B false] (.dat (.sl 1 sr))) (hm2 : Cq 113 [Nq N F,I z,B true] (.dat (.sl 1 tr)))
  (hpl4 : ev cfg (.call 107 [I 4,I nr.length,.clo 116 [bx.length + 1,bx.length + 2]] (bx ++ [Nb N F,[.dat (.sl 1 sr)],[.dat (.sl 1 tr)]])) = Rq Z) :
  Jq (.call 68 [Nq N F] bx) = Rq Z := by
 obtain ⟨w,h1,h2,h3⟩ := hN
 obtain ⟨w,g1,g2,g3⟩ := hF
 subst hZ
 have z0 : decide (((0 : Nat) : Int) > 0) = false := by decide
 cases rs <;> simp only [mkS] at hpl4 ⊢ <;> simp only [go_sem,seval,h1,h3,g1,g3,c1,c2,hpl,hpl2,h3d,hst,hen,hm1,hm2,hpl4,z0]
end
theorem check_0 (hN : Oq N) (hF : Oq F) (hall : Cq 68 [Nq N F] (.dat .nil)) :
  Jq (.call 33 [Nq N F] bx) = Rq (.tup [I 0,I 0]) := by
 have z0 : decide (((0 : Nat) : Int) > 0) = false := by decide
 simp only [go_sem,seval,hN,hF,hall,z0]
theorem check_1 {r q : Int} (hN : Oq N) (hF : Oq F) (hall : Cq 68 [Nq N F] (.own true 2 ([dI r,dI q] :: rs))) :
  Jq (.call 33 [Nq N F] bx) = Rq (.tup [I r,I q]) := by
 have h9 : decide (((rs.length + 1 : Nat) : Int) > 0) = true := dqt (by omega)
 have h8 : (0 < rs.length + 1) = True := by simp
 simp only [go_sem,seval,hN,hF,hall,h9,h8]
end
set_option maxHeartbeats 8000000
section
variable {bx : List Box} {c : Box} {rows lr : List (List D)} {K L K' L' : D} {i l : Nat} {k a n : Int} {tt : Bool}
theorem eachc_round {g : FuncId} {cap : List Nat} {u : Box} (hcap : (cap.all fun l => decide (l < bx.length + 1)) = true) (hK : IsS 5 rows K) (hl : l < bx.length) (hc : c.all (cellLt (bx.length + 1)) = true) (hget : rows[i]? = some [dI k,dI n,dI a,K',L']) (hlt : i < rows.length) (hmax : rows.length < 9223372036854775808) (hk : Oq K') (hL : Oq L')
  (lo : Option Nat) (hlo : lo = none ∨ lo = some l) (tt : Bool)
  (hcall : ∀ r : Box,ev cfg (.call 76 [Wq k n a K' L',.clo g cap] (bx ++ [c,r])) = some (.ret (.tup []) (if tt = true then some ⟨bx.set l u ++ [c,r],l,false⟩ else none))) :
  Jq (.loop 76 3 ⟨(sh76_3 (.clo g cap) (.dat K) (I rows.length) (I i)),bx ++ [c],bx.length,lo,false⟩) =
   ev cfg (.loop 76 3 ⟨(sh76_3 (.clo g cap) (.dat K) (I rows.length) (I ((i + 1 : Nat) : Int))),(if tt = true then bx.set l u else bx) ++ [c],bx.length,(if tt = true then some l else lo),false⟩) := by
 obtain ⟨w,h1,h2,h3⟩ := hK
 obtain rfl := isS_w h2 hget
 cases tt <;> simp only [if_true,if_false,Bool.false_eq_true] at hcall <;> rcases hlo with rfl | rfl <;> simp only [go_sem,seval,h1,h3,hk,hL,nat_lt hlt,nat_neg,tnc,hget,hcall,hc,hl,hcap,nat_succ hlt hmax,Nat.min_self]
theorem eachc_end {g : FuncId} {cap : List Nat} {m : Nat} (hcap : (cap.all fun l => decide (l < bx.length + 1)) = true) (hc : c.all (cellLt (bx.length + 1)) = true) (hge : m <= i) (lo : Option Nat) (hK : Oq K) :
  Jq (.loop 76 3 ⟨(sh76_3 (.clo g cap) (.dat K) (I m) (I i)),bx ++ [c],bx.length,lo,false⟩) = some (.loop (.exit 0) ⟨(se76_3),bx ++ [c],bx.length,lo,false⟩) := by
 simp only [go_sem,seval,nat_ge hge,hc,hK,hcap]
theorem eachc_f {g : FuncId} {cap : List Nat} {u u2 : Box} (t1 t2 : Bool) (hcap : (cap.all fun l => decide (l < bx.length + 1)) = true) (hK : IsS 5 rows K) (hL : IsS 3 lr L) (hl : l < bx.length)
  (hg : ∀ r : Box,ev cfg (.call g (Wq k n a K L :: cap.map fun l => .ptr l 0) (bx ++ [r])) = some (.ret (.tup []) (if t1 = true then some ⟨bx.set l u ++ [r],l,false⟩ else none)))
  (hloop : ∀ c : Box,c.all (cellLt (bx.length + 1)) = true -> ev cfg (.loop 76 3 ⟨(sh76_3 (.clo g cap) (.dat K) (I rows.length) (I 0)),(if t1 = true then bx.set l u else bx) ++ [c],bx.length,(if t1 = true then some l else none),false⟩) =
   some (.loop (.exit 0) ⟨(se76_3),(if t2 = true then bx.set l u2 else bx) ++ [c],bx.length,(if t2 = true then some l else none),false⟩)) :
  Jq (.call 76 [Wq k n a K L,.clo g cap] bx) = some (.ret (.tup []) (if t2 = true then some ⟨bx.set l u2,l,false⟩ else none)) := by
 obtain ⟨w,h1,h2,h3⟩ := hK
 obtain ⟨wl,l1,l2,l3⟩ := hL
 have hloop' := hloop (Wx k n a K L) (by simp [cellLt])
 cases t1 <;> simp only [if_true,if_false,Bool.false_eq_true] at hg hloop' <;> cases t2 <;> simp only [if_true,if_false,Bool.false_eq_true] at hloop' <;> simp only [go_sem,seval,h1,h3,l1,l3,hl,hcap,hg,hloop']
end
section
variable {bx : List Box} {c : Box} {fr ors acc acc2 : List (List D)} {N F K L X : D} {i j l l0 : Nat} {k a n f t op2 n2 : Int} {e : Bool} {K2 : D}
theorem nodes1_round0 (hF : IsS 6 fr F) (hN : Oq N) (hX : IsS 1 ors X) (hl0 : l0 < bx.length) (hl : l < bx.length) (b0 : bx[l0]? = some (Nb N F)) (hc : c.all (cellLt (bx.length + 1)) = true) (hget : ors[i]? = some [dI j]) (hj : fr[j]? = some [dI f,dI t,.lit (.bool e),dI op2,dI n2,K2]) (hlt : i < ors.length) (hmax : ors.length < 9223372036854775808) (lo : Option Nat) (hlo : lo = none ∨ lo = some l) (b1 : bx[l]? = some [.dat .nil]) :
  Jq (.loop 77 9 ⟨(sh77_9 (.ptr l0 0) (.ptr l 0) (P0 bx) (.dat X) (I ors.length) (I i)),bx ++ [c],bx.length,lo,false⟩) =
   ev cfg (.loop 77 9 ⟨(sh77_9 (.ptr l0 0) (.ptr l 0) (P0 bx) (.dat X) (I ors.length) (I ((i + 1 : Nat) : Int))),bx.set l [.own true 1 [[dI t]]] ++ [c],bx.length,some l,false⟩) := by
 obtain ⟨w,g1,g2,g3⟩ := hF
 obtain rfl := isS_w g2 hj
 obtain ⟨w,q1,q2,q3⟩ := hX
 obtain rfl := isS_w q2 hget
 have lj : j < fr.length := (gsi.1 hj).1
 rcases hlo with rfl | rfl <;> simp only [go_sem,seval,g1,g3,q1,q3,hN,hget,hj,lj,hl0,hl,b0,b1,hc,nat_lt hlt,nat_neg,tnc,nat_succ hlt hmax,Nat.min_self]
theorem nodes1_round1 (hF : IsS 6 fr F) (hN : Oq N) (hX : IsS 1 ors X) (hl0 : l0 < bx.length) (hl : l < bx.length) (b0 : bx[l0]? = some (Nb N F)) (hc : c.all (cellLt (bx.length + 1)) = true) (hget : ors[i]? = some [dI j]) (hj : fr[j]? = some [dI f,dI t,.lit (.bool e),dI op2,dI n2,K2]) (hlt : i < ors.length) (hmax : ors.length < 9223372036854775808) (lo : Option Nat) (hlo : lo = none ∨ lo = some l) (hks : (acc.length + 1) * 8 <= 140737488355328) (b1 : bx[l]? = some [.own true 1 acc]) :
  Jq (.loop 77 9 ⟨(sh77_9 (.ptr l0 0) (.ptr l 0) (P0 bx) (.dat X) (I ors.length) (I i)),bx ++ [c],bx.length,lo,false⟩) =
   ev cfg (.loop 77 9 ⟨(sh77_9 (.ptr l0 0) (.ptr l 0) (P0 bx) (.dat X) (I ors.length) (I ((i + 1 : Nat) : Int))),bx.set l [.own true 1 (acc ++ [[dI t]])] ++ [c],bx.length,some l,false⟩) := by
 obtain ⟨w,g1,g2,g3⟩ := hF
 obtain rfl := isS_w g2 hj
 obtain ⟨w,q1,q2,q3⟩ := hX
 obtain rfl := isS_w q2 hget
 have lj : j < fr.length := (gsi.1 hj).1
 rcases hlo with rfl | rfl <;> simp only [go_sem,seval,g1,g3,q1,q3,hN,hget,hj,lj,hl0,hl,b0,b1,hc,nat_lt hlt,nat_neg,tnc,nat_succ hlt hmax,Nat.min_self,hks]
theorem nodes1_end {m : Nat} (hX : Oq X) (hl0 : l0 < bx.length) (hl : l < bx.length) (hc : c.all (cellLt (bx.length + 1)) = true) (hge : m <= i) (lo : Option Nat) :
  Jq (.loop 77 9 ⟨(sh77_9 (.ptr l0 0) (.ptr l 0) (P0 bx) (.dat X) (I m) (I i)),bx ++ [c],bx.length,lo,false⟩) = some (.loop (.exit 3) ⟨(se77_9 (.ptr l 0) (P0 bx)),bx ++ [c],bx.length,lo,false⟩) := by
 simp only [go_sem,seval,hX,hl0,hl,hc,nat_ge hge]
theorem nodes1_k2_0 (hK : Oq K) (hL : Oq L) (hl0 : l0 < bx.length) (hl : l < bx.length) (b1 : bx[l]? = some [.dat .nil]) :
  Jq (.call 77 [Wq 2 n a K L,.ptr l0 0,.ptr l 0] bx) = some (.ret (.tup []) (some ⟨bx.set l [.own true 1 [[dI n]]],l,false⟩)) := by
 simp only [go_sem,seval,hK,hL,hl0,hl,b1]
theorem nodes1_k2_1 (hK : Oq K) (hL : Oq L) (hl0 : l0 < bx.length) (hl : l < bx.length) (hks : (acc.length + 1) * 8 <= 140737488355328) (b1 : bx[l]? = some [.own true 1 acc]) :
  Jq (.call 77 [Wq 2 n a K L,.ptr l0 0,.ptr l 0] bx) = some (.ret (.tup []) (some ⟨bx.set l [.own true 1 (acc ++ [[dI n]])],l,false⟩)) := by
 simp only [go_sem,seval,hK,hL,hl0,hl,b1,hks]
theorem nodes1_k4_0 (hK : Oq K) (hL : Oq L) (hl0 : l0 < bx.length) (hl : l < bx.length) (b1 : bx[l]? = some [.dat .nil]) :
  Jq (.call 77 [Wq 4 n a K L,.ptr l0 0,.ptr l 0] bx) = some (.ret (.tup []) (some ⟨bx.set l [.own true 1 [[dI n]]],l,false⟩)) := by
 simp only [go_sem,seval,hK,hL,hl0,hl,b1]
theorem nodes1_k4_1 (hK : Oq K) (hL : Oq L) (hl0 : l0 < bx.length) (hl : l < bx.length) (hks : (acc.length + 1) * 8 <= 140737488355328) (b1 : bx[l]? = some [.own true 1 acc]) :
  Jq (.call 77 [Wq 4 n a K L,.ptr l0 0,.ptr l 0] bx) = some (.ret (.tup []) (some ⟨bx.set l [.own true 1 (acc ++ [[dI n]])],l,false⟩)) := by
 simp only [go_sem,seval,hK,hL,hl0,hl,b1,hks]
theorem nodes1_k5_0 (hK : Oq K) (hL : Oq L) (hl0 : l0 < bx.length) (hl : l < bx.length) (b1 : bx[l]? = some [.dat .nil]) :
  Jq (.call 77 [Wq 5 n a K L,.ptr l0 0,.ptr l 0] bx) = some (.ret (.tup []) (some ⟨bx.set l [.own true 1 [[dI n]]],l,false⟩)) := by
 simp only [go_sem,seval,hK,hL,hl0,hl,b1]
theorem nodes1_k5_1 (hK : Oq K) (hL : Oq L) (hl0 : l0 < bx.length) (hl : l < bx.length) (hks : (acc.length + 1) * 8 <= 140737488355328) (b1 : bx[l]? = some [.own true 1 acc]) :
  Jq (.call 77 [Wq 5 n a K L,.ptr l0 0,.ptr l 0] bx) = some (.ret (.tup []) (some ⟨bx.set l [.own true 1 (acc ++ [[dI n]])],l,false⟩)) := by
 simp only [go_sem,seval,hK,hL,hl0,hl,b1,hks]
theorem nodes1_k7_0 (hK : Oq K) (hL : Oq L) (hl0 : l0 < bx.length) (hl : l < bx.length) (b1 : bx[l]? = some [.dat .nil]) :
  Jq (.call 77 [Wq 7 n a K L,.ptr l0 0,.ptr l 0] bx) = some (.ret (.tup []) (some ⟨bx.set l [.own true 1 [[dI n]]],l,false⟩)) := by
 simp only [go_sem,seval,hK,hL,hl0,hl,b1]
theorem nodes1_k7_1 (hK : Oq K) (hL : Oq L) (hl0 : l0 < bx.length) (hl : l < bx.length) (hks : (acc.length + 1) * 8 <= 140737488355328) (b1 : bx[l]? = some [.own true 1 acc]) :
  Jq (.call 77 [Wq 7 n a K L,.ptr l0 0,.ptr l 0] bx) = some (.ret (.tup []) (some ⟨bx.set l [.own true 1 (acc ++ [[dI n]])],l,false⟩)) := by
 simp only [go_sem,seval,hK,hL,hl0,hl,b1,hks]
theorem nodes1_k8_0 (hK : Oq K) (hL : Oq L) (hl0 : l0 < bx.length) (hl : l < bx.length) (b1 : bx[l]? = some [.dat .nil]) :
  Jq (.call 77 [Wq 8 n a K L,.ptr l0 0,.ptr l 0] bx) = some (.ret (.tup []) (some ⟨bx.set l [.own true 1 [[dI n]]],l,false⟩)) := by
 simp only [go_sem,seval,hK,hL,hl0,hl,b1]
theorem nodes1_k8_1 (hK : Oq K) (hL : Oq L) (hl0 : l0 < bx.length) (hl : l < bx.length) (hks : (acc.length + 1) * 8 <= 140737488355328) (b1 : bx[l]? = some [.own true 1 acc]) :
  Jq (.call 77 [Wq 8 n a K L,.ptr l0 0,.ptr l 0] bx) = some (.ret (.tup []) (some ⟨bx.set l [.own true 1 (acc ++ [[dI n]])],l,false⟩)) := by
 simp only [go_sem,seval,hK,hL,hl0,hl,b1,hks]
theorem nodes1_o (hK : Oq K) (hL : Oq L) (hl0 : l0 < bx.length) (hl : l < bx.length) (k6 : (k == 6) = false) (k2 : (k == 2) = false) (k4 : (k == 4) = false) (k5 : (k == 5) = false) (k7 : (k == 7) = false) (k8 : (k == 8) = false) :
  Jq (.call 77 [Wq k n a K L,.ptr l0 0,.ptr l 0] bx) = Rq (.tup []) := by
 simp only [go_sem,seval,hK,hL,hl0,hl,k6,k2,k4,k5,k7,k8]
theorem nodes1_k6_0 (hF : Oq F) (hN : Oq N) (hX : IsS 1 ors X) (hK : Oq K) (hL : Oq L) (hl0 : l0 < bx.length) (hl : l < bx.length) (b0 : bx[l0]? = some (Nb N F)) (b1 : bx[l]? = some [.dat .nil])
  (hO : Cq 78 [Nq N F,I n] (.dat X))
  (hloop : ∀ c : Box,c.all (cellLt (bx.length + 1)) = true -> ev cfg (.loop 77 9 (qs bx (sh77_9 (.ptr l0 0) (.ptr l 0) (P0 bx) (.dat X) (I ors.length) (I 0)) [c])) = some (.loop (.exit 3) (qs bx (se77_9 (.ptr l 0) (P0 bx)) [c]))) :
  Jq (.call 77 [Wq 6 n a K L,.ptr l0 0,.ptr l 0] bx) = some (.ret (.tup []) (some ⟨bx.set l [.own true 1 [[dI n]]],l,false⟩)) := by
 obtain ⟨w,q1,q2,q3⟩ := hX
 have hloop' := hloop (Wx 6 n a K L) (by simp [cellLt])
 simp only [go_sem,seval,q1,q3,hF,hN,hK,hL,hl0,hl,b0,b1,hO,hloop']
theorem nodes1_k6_1 (hF : Oq F) (hN : Oq N) (hX : IsS 1 ors X) (hK : Oq K) (hL : Oq L) (hl0 : l0 < bx.length) (hl : l < bx.length) (hks : (acc.length + 1) * 8 <= 140737488355328) (b0 : bx[l0]? = some (Nb N F)) (b1 : bx[l]? = some [.own true 1 acc])
  (hO : Cq 78 [Nq N F,I n] (.dat X))
  (hloop : ∀ c : Box,c.all (cellLt (bx.length + 1)) = true -> ev cfg (.loop 77 9 (qs bx (sh77_9 (.ptr l0 0) (.ptr l 0) (P0 bx) (.dat X) (I ors.length) (I 0)) [c])) = some (.loop (.exit 3) (qs bx (se77_9 (.ptr l 0) (P0 bx)) [c]))) :
  Jq (.call 77 [Wq 6 n a K L,.ptr l0 0,.ptr l 0] bx) = some (.ret (.tup []) (some ⟨bx.set l [.own true 1 (acc ++ [[dI n]])],l,false⟩)) := by
 obtain ⟨w,q1,q2,q3⟩ := hX
 have hloop' := hloop (Wx 6 n a K L) (by simp [cellLt])
 simp only [go_sem,seval,q1,q3,hF,hN,hK,hL,hl0,hl,b0,b1,hO,hloop',hks]
theorem nodes1_k6_2 {u : PV} (hF : Oq F) (hN : Oq N) (hX : IsS 1 ors X) (hK : Oq K) (hL : Oq L) (hl0 : l0 < bx.length) (hl : l < bx.length) (hks : (acc2.length + 1) * 8 <= 140737488355328) (b0 : bx[l0]? = some (Nb N F)) (b1 : bx[l]? = some [u])
  (hO : Cq 78 [Nq N F,I n] (.dat X))
  (hloop : ∀ c : Box,c.all (cellLt (bx.length + 1)) = true -> ev cfg (.loop 77 9 (qs bx (sh77_9 (.ptr l0 0) (.ptr l 0) (P0 bx) (.dat X) (I ors.length) (I 0)) [c])) = some (.loop (.exit 3) ⟨(se77_9 (.ptr l 0) (P0 bx)),bx.set l [.own true 1 acc2] ++ [c],bx.length,some l,false⟩)) :
  Jq (.call 77 [Wq 6 n a K L,.ptr l0 0,.ptr l 0] bx) = some (.ret (.tup []) (some ⟨bx.set l [.own true 1 (acc2 ++ [[dI n]])],l,false⟩)) := by
 obtain ⟨w,q1,q2,q3⟩ := hX
 have hloop' := hloop (Wx 6 n a K L) (by simp [cellLt])
 simp only [go_sem,seval,q1,q3,hF,hN,hK,hL,hl0,hl,b0,b1,hO,hloop',hks]
theorem nodes_f0 (hK : Oq K) (hL : Oq L) (hF : Oq F) (hN : Oq N)
  (he : ev cfg (.call 76 [Wq k n a K L,.clo 77 [bx.length,bx.length + 2]] (bx ++ [Nb N F,Wx k n a K L,[.dat .nil]])) = Rq (.tup [])) :
  Jq (.call 44 [Nq N F,Wq k n a K L] bx) = Rq (.dat .nil) := by
 simp only [go_sem,seval,hK,hL,hF,hN,he]
theorem nodes_f1 {zs : List Int} (hz : intRows acc = some zs) (hzl : zs.length < 4611686018427387904) (hK : Oq K) (hL : Oq L) (hF : Oq F) (hN : Oq N)
  (he : ev cfg (.call 76 [Wq k n a K L,.clo 77 [bx.length,bx.length + 2]] (bx ++ [Nb N F,Wx k n a K L,[.dat .nil]])) = some (.ret (.tup []) (some ⟨bx ++ [Nb N F,Wx k n a K L,[.own true 1 acc]],bx.length + 2,false⟩))) :
  Jq (.call 44 [Nq N F,Wq k n a K L] bx) = Rq (.own true 1 (rowsOf (sortI zs))) := by
 simp only [go_sem,seval,hK,hL,hF,hN,he,runHook,ownPlace,hz,hzl]
end
section
variable {bx : List Box} {nr rows ors : List (List D)} {N F K L K' L' X : D} {i p l : Nat} {k a op n : Int} {v : Bool}
theorem right1_f (hK : Oq K) (hL : Oq L) : Jq (.call 119 [Wq k n a K L] bx) = Rq (B (k == 3)) := by
 simp only [go_sem,seval,hK,hL]
theorem kid_round {g : FuncId} {cap : List Nat} (hcap : (cap.all fun l => decide (l < bx.length)) = true) (hK : IsS 5 rows K) (hget : rows[i]? = some [dI k,dI n,dI a,K',L']) (hlt : i < rows.length) (hmax : rows.length < 9223372036854775808) (hk : Oq K') (hl : Oq L')
  (hcall : ev cfg (.call g (Wq k n a K' L' :: cap.map fun l => .ptr l 0) bx) = Rq (B v)) :
  Jq (.loop 122 2 (q0 bx (sh122_2 (.dat K) (.clo g cap) (I rows.length) (I i)))) =
   if v = true then some (.loop .ret (q0 bx (se122_2 (I i))))
   else ev cfg (.loop 122 2 (q0 bx (sh122_2 (.dat K) (.clo g cap) (I rows.length) (I ((i + 1 : Nat) : Int))))) := by
 obtain ⟨w,h1,h2,h3⟩ := hK
 obtain rfl := isS_w h2 hget
 cases v <;> simp only [go_sem,seval,h1,h3,hk,hl,hcap,nat_lt hlt,nat_neg,tnc,hget,hcall,nat_succ hlt hmax]
theorem kid_end {g : FuncId} {cap : List Nat} (hcap : (cap.all fun l => decide (l < bx.length)) = true) (hK : Oq K) {m : Nat} (hge : m <= i) :
  Jq (.loop 122 2 (q0 bx (sh122_2 (.dat K) (.clo g cap) (I m) (I i)))) = some (.loop (.exit 0) (q0 bx (se122_2 .dead))) := by
 simp only [go_sem,seval,hcap,hK,nat_ge hge]
theorem kid_f {g : FuncId} {cap : List Nat} {y : Option Nat} (hcap : (cap.all fun l => decide (l < bx.length)) = true) (hK : IsS 5 rows K) 
  (hloop : ev cfg (.loop 122 2 (q0 bx (sh122_2 (.dat K) (.clo g cap) (I rows.length) (I 0)))) = some (match y with
   | some j => .loop .ret (q0 bx (se122_2 (I j)))
   | none => .loop (.exit 0) (q0 bx (se122_2 .dead)))) :
  Jq (.call 122 [.dat K,.clo g cap] bx) = Rq (I (match y with | some j => (j : Int) | none => -1)) := by
 obtain ⟨w,h1,h2,h3⟩ := hK
 cases y <;> simp only at hloop <;> simp only [go_sem,seval,hcap,h1,h3,hloop]
theorem some_kid {g : FuncId} {cap : List Nat} {y : Int} (hcap : (cap.all fun l => decide (l < bx.length)) = true) (hK : Oq K) (hc : ev cfg (.call 122 [.dat K,.clo g cap] bx) = Rq (I y)) :
  Jq (.call 74 [.dat K,.clo g cap] bx) = Rq (B (decide (y >= 0))) := by
 simp only [go_sem,seval,hcap,hK,hc]
theorem splits_no {q kd m : Int} (hN : IsS 5 nr N) (hF : Oq F) (h : (decide (q >= 0) && decide (q < (nr.length : Int))) = false) :
  Jq (.call 120 [Nq N F,I q,I kd,I m] bx) = Rq (B false) := by
 obtain ⟨w,h1,h2,h3⟩ := hN
 cases c1 : decide (q >= 0)
 ·simp only [go_sem,seval,h1,h3,hF,c1]
 ·rw [c1,Bool.true_and] at h
  simp only [go_sem,seval,h1,h3,hF,c1,h]
theorem splits_go {kd m : Int} (hN : IsS 5 nr N) (hF : Oq F) (hp : nr[p]? = some [dI k,dI a,dI op,dI n,K]) (hX : IsS 1 ors X) (hO : Cq 78 [Nq N F,I p] (.dat X)) :
  Jq (.call 120 [Nq N F,I p,I kd,I m] bx) = Rq (B (k == kd && (decide (m > 1) && (ors.length : Int) == m))) := by
 obtain ⟨w,h1,h2,h3⟩ := hN
 obtain rfl := isS_w h2 hp
 obtain ⟨w',g1,g2,g3⟩ := hX
 have l2 : p < nr.length := (gsi.1 hp).1
 have z1 : decide ((p : Int) >= 0) = true := dqt (by omega)
 have z2 : decide ((p : Int) < (nr.length : Int)) = true := dqt (by omega)
 cases c1 : (k == kd)
 ·simp only [go_sem,seval,h1,h3,hF,hp,l2,z1,z2,c1,nat_neg,tnc]
 ·cases c2 : decide (m > 1)
  ·simp only [go_sem,seval,h1,h3,hF,hp,l2,z1,z2,c1,c2,nat_neg,tnc]
  ·simp only [go_sem,seval,h1,h3,g1,g3,hF,hp,l2,z1,z2,c1,c2,hO,nat_neg,tnc]
end
section
variable {bx : List Box} {fr rows lr : List (List D)} {N F K L : D} {i : Nat} {k a n f t w ins outs : Int}
def badLk (nk nf : Nat) (f t w : Int) : Bool := decide (f < -1) || (decide (f >= (nk : Int)) || (decide (t < -1) || (decide (t >= (nk : Int)) || (decide (w < 0) || decide (w >= (nf : Int))))))
theorem blink_bad (hN : Oq N) (hF : IsS 6 fr F) (hK : IsS 5 rows K) (hL : IsS 3 lr L) (hget : lr[i]? = some [dI f,dI t,dI w]) (hlt : i < lr.length) (hb : badLk rows.length fr.length f t w = true) :
  Jq (.loop 121 3 (qs bx (sh121_3 (P0 bx) (P1 bx) (I ins) (I outs) (.dat L) (I lr.length) (I i)) [Nb N F,Wx k n a K L])) =
   some (.loop .ret (qs bx (se121_3 (P1 bx) (B false) (I ins) (I outs)) [Nb N F,Wx k n a K L])) := by
 obtain ⟨w1,h1,h2,h3⟩ := hL
 obtain rfl := isS_w h2 hget
 obtain ⟨w2,g1,g2,g3⟩ := hF
 obtain ⟨w3,q1,q2,q3⟩ := hK
 unfold badLk at hb
 cases c1 : decide (f < -1)
 ·cases c2 : decide (f >= (rows.length : Int))
  ·cases c3 : decide (t < -1)
   ·cases c4 : decide (t >= (rows.length : Int))
    ·cases c5 : decide (w < 0)
     ·have c6 : decide (w >= (fr.length : Int)) = true := by simpa [c1,c2,c3,c4,c5] using hb
      simp only [go_sem,seval,h1,h3,g1,g3,q1,q3,hN,nat_lt hlt,nat_neg,tnc,hget,c1,c2,c3,c4,c5,c6]
     ·simp only [go_sem,seval,h1,h3,g1,g3,q1,q3,hN,nat_lt hlt,nat_neg,tnc,hget,c1,c2,c3,c4,c5]
    ·simp only [go_sem,seval,h1,h3,g1,g3,q1,q3,hN,nat_lt hlt,nat_neg,tnc,hget,c1,c2,c3,c4]
   ·simp only [go_sem,seval,h1,h3,g1,g3,q1,q3,hN,nat_lt hlt,nat_neg,tnc,hget,c1,c2,c3]
  ·simp only [go_sem,seval,h1,h3,g1,g3,q1,q3,hN,nat_lt hlt,nat_neg,tnc,hget,c1,c2]
 ·simp only [go_sem,seval,h1,h3,g1,g3,q1,q3,hN,nat_lt hlt,nat_neg,tnc,hget,c1]
end
section
variable {K L : D} {k n a : Int}
def altN : D := .sl 5 [[dI 1,dI 0,dI 0,dI 0,.nil],[dI 5,dI 0,dI 0,dI 0,.nil],[dI 3,dI 0,dI 0,dI 0,.nil],[dI 5,dI 0,dI 0,dI 0,.nil],[dI 2,dI 0,dI 0,dI 0,.nil]]
def altF : D := .sl 6 [[dI 0,dI 1,.lit (.bool false),dI 0,dI 0,.nil],[dI 1,dI 2,.lit (.bool false),dI 10,dI 0,.sl 3 [[dI 2,dI 0,.nil],[dI 2,dI 0,.nil]]],[dI 1,dI 3,.lit (.bool true),dI 0,dI 0,.nil],[dI 2,dI 3,.lit (.bool false),dI 0,dI 0,.nil],[dI 3,dI 4,.lit (.bool false),dI 0,dI 0,.nil]]
theorem malt_f1 {c0 : Box} (hf : Cq 9 [Nq altN altF] (.tup [Wq k n a K L,I 0])) (o1 : Oq K) (o2 : Oq L)
  (ht : ∀ b0 b1 b2 b3 : Box,ev cfg (.call 26 [Wq k n a K L] [b0,b1,b2,b3]) = Rq (.tup [S ⟨#[40,97,108,116,58,49,32,50,32,45,41]⟩,I 0])) :
  Jq (.call 8 [] [c0]) = Rq (B true) := by
 simp only [altN,altF] at hf
 simp only [go_sem,seval,hf,ht,o1,o2,Int.reduceBEq]
theorem malt_f2 {c0 c1 : Box} (hf : Cq 9 [Nq altN altF] (.tup [Wq k n a K L,I 0])) (o1 : Oq K) (o2 : Oq L)
  (ht : ∀ b0 b1 b2 b3 b4 : Box,ev cfg (.call 26 [Wq k n a K L] [b0,b1,b2,b3,b4]) = Rq (.tup [S ⟨#[40,97,108,116,58,49,32,50,32,45,41]⟩,I 0])) :
  Jq (.call 8 [] [c0,c1]) = Rq (B true) := by
 simp only [altN,altF] at hf
 simp only [go_sem,seval,hf,ht,o1,o2,Int.reduceBEq]
end
end Go.Proofs.YtifckjhggamefaaGreatDoor
