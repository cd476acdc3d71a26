/- Rounds of block.Leaves and of treenailref10.Times. No condition. -/
import Derived.Test.YtifckjhggamefaaGreatDoorPb
set_option linter.unusedSimpArgs false
set_option linter.unusedVariables false
set_option linter.unusedSectionVars false
namespace Go.Proofs.YtifckjhggamefaaGreatDoor
open Go Go.Vx
set_option maxHeartbeats 8000000
set_option maxRecDepth 10000
section
variable {bx : List Box} {fr kr ors : List (List D)} {N F K L X K2 L2 : D} {i p : Nat} {k nd a q f tt op2 n2 t tk k2 nd2 a2 : Int} {el : Bool}
theorem times_o (hF : IsS 6 fr F) (hN : Oq N) (hK : Oq K) (hL : Oq L) (hget : ors[i]? = some [dI p]) (hX : IsS 1 ors X) (hflow : fr[p]? = some [dI f,dI tt,.lit (.bool el),dI op2,dI n2,K2]) (hlt : i < ors.length) (hmax : ors.length < 9223372036854775808) (ht : 0 <= t) (ht2 : t < 1000000000) :
  Jq (.loop 88 7 (qs bx (sh88_7 (I q) (P0 bx) (P1 bx) (I t) (.dat X) (I ors.length) (I i)) [Nb N F,Wx k nd a K L])) = ev cfg (.loop 88 7 (qs bx (sh88_7 (I q) (P0 bx) (P1 bx) (I (if (tt == q) = true then t + 1 else t)) (.dat X) (I ors.length) (I ((i + 1 : Nat) : Int))) [Nb N F,Wx k nd a K L])) := by
 have hp : p < fr.length := (gsi.1 hflow).1
 have w0 : IntKind.wrap .i64 (t + 1) = t + 1 := wrap_lo (by omega) (by omega)
 obtain ⟨w1,g1,g2,g3⟩ := hF
 obtain rfl := isS_w g2 hflow
 obtain ⟨w2,q1,q2,q3⟩ := hX
 obtain rfl := isS_w q2 hget
 cases c : (tt == q)
 ·simp only [go_sem,seval,hN,g1,g3,q1,q3,hK,hL,nat_lt hlt,nat_succ hlt hmax,nat_neg,tnc,hget,hlt,hflow,hp,c]
 ·simp only [go_sem,seval,hN,g1,g3,q1,q3,hK,hL,nat_lt hlt,nat_succ hlt hmax,nat_neg,tnc,hget,hlt,hflow,hp,c,w0]
theorem times_oend (hF : Oq F) (hN : Oq N) (hK : Oq K) (hL : Oq L) (hX : Oq X) {n : Nat} (hge : n <= i) :
  Jq (.loop 88 7 (qs bx (sh88_7 (I q) (P0 bx) (P1 bx) (I t) (.dat X) (I n) (I i)) [Nb N F,Wx k nd a K L])) = some (.loop (.exit 0) (qs bx (se88_7 (I q) (P0 bx) (P1 bx) (I t)) [Nb N F,Wx k nd a K L])) := by
 simp only [go_sem,seval,hN,hF,hK,hL,hX,nat_ge hge]
theorem times_k (hF : Oq F) (hN : Oq N) (hK : IsS 5 kr K) (hL : Oq L) (hget : kr[i]? = some [dI k2,dI nd2,dI a2,K2,L2]) (hK2 : Oq K2) (hL2 : Oq L2) (hlt : i < kr.length) (hmax : kr.length < 9223372036854775808)
  (hc : Cq 88 [Nq N F,Wq k2 nd2 a2 K2 L2,I q] (I tk)) (ht : 0 <= t + tk) (ht2 : t + tk < 1000000000) :
  Jq (.loop 88 13 (qs bx (sh88_13 (I q) (P0 bx) (I t) (.dat K) (I kr.length) (I i)) [Nb N F,Wx k nd a K L])) = ev cfg (.loop 88 13 (qs bx (sh88_13 (I q) (P0 bx) (I (t + tk)) (.dat K) (I kr.length) (I ((i + 1 : Nat) : Int))) [Nb N F,Wx k nd a K L])) := by
 have w0 : IntKind.wrap .i64 (t + tk) = t + tk := wrap_lo (by omega) (by omega)
 obtain ⟨w1,g1,g2,g3⟩ := hK
 obtain rfl := isS_w g2 hget
 simp only [go_sem,seval,hN,hF,g1,g3,hL,hK2,hL2,nat_lt hlt,nat_succ hlt hmax,nat_neg,tnc,hget,hlt,hc,w0]
theorem times_kend (hF : Oq F) (hN : Oq N) (hK : Oq K) (hL : Oq L) {n : Nat} (hge : n <= i) :
  Jq (.loop 88 13 (qs bx (sh88_13 (I q) (P0 bx) (I t) (.dat K) (I n) (I i)) [Nb N F,Wx k nd a K L])) = some (.loop (.exit 2) (qs bx (se88_13 (I t)) [Nb N F,Wx k nd a K L])) := by
 simp only [go_sem,seval,hN,hF,hK,hL,nat_ge hge]
theorem times_f (hF : Oq F) (hN : Oq N) (hK : IsS 5 kr K) (hL : Oq L) (k6 : (k == 6) = false)
  (hlp : ev cfg (.loop 88 13 (qs bx (sh88_13 (I q) (P0 bx) (I (if (((k == 2) || (decide (k >= 4) && decide (k <= 8))) && (nd == q)) = true then 1 else 0)) (.dat K) (I kr.length) (I 0)) [Nb N F,Wx k nd a K L])) = some (.loop (.exit 2) (qs bx (se88_13 (I t)) [Nb N F,Wx k nd a K L]))) :
  Jq (.call 88 [Nq N F,Wq k nd a K L,I q] bx) = Rq (I t) := by
 obtain ⟨w1,g1,g2,g3⟩ := hK
 have w0 : IntKind.wrap .i64 (0 + 1) = 1 := rfl
 cases c0 : (k == 2)
 ·cases c1 : decide (k >= 4)
  ·simp only [c0,c1,Bool.false_or,Bool.false_and,Bool.false_eq_true,if_false] at hlp
   simp only [go_sem,seval,hN,hF,g1,g3,hL,k6,hlp,c0,c1]
  ·cases c2 : decide (k <= 8)
   ·simp only [c0,c1,c2,Bool.false_or,Bool.and_false,Bool.false_and,Bool.false_eq_true,if_false] at hlp
    simp only [go_sem,seval,hN,hF,g1,g3,hL,k6,hlp,c0,c1,c2]
   ·cases c3 : (nd == q)
    ·simp only [c3,Bool.and_false,Bool.false_eq_true,if_false] at hlp
     simp only [go_sem,seval,hN,hF,g1,g3,hL,k6,hlp,c0,c1,c2,c3]
    ·simp only [c0,c1,c2,c3,Bool.false_or,Bool.true_and,if_true] at hlp
     simp only [go_sem,seval,hN,hF,g1,g3,hL,k6,hlp,c0,c1,c2,c3,w0]
 ·cases c3 : (nd == q)
  ·simp only [c3,Bool.and_false,Bool.false_eq_true,if_false] at hlp
   simp only [go_sem,seval,hN,hF,g1,g3,hL,k6,hlp,c0,c3]
  ·simp only [c0,c3,Bool.true_or,Bool.true_and,if_true] at hlp
   simp only [go_sem,seval,hN,hF,g1,g3,hL,k6,hlp,c0,c3,w0]
theorem times_6 (hF : Oq F) (hN : Oq N) (hK : IsS 5 kr K) (hL : Oq L) (hX : IsS 1 ors X) (hO : Cq 55 [Nq N F,I nd] (.dat X))
  (hl7 : ev cfg (.loop 88 7 (qs bx (sh88_7 (I q) (P0 bx) (P1 bx) (I (if (nd == q) = true then 1 else 0)) (.dat X) (I ors.length) (I 0)) [Nb N F,Wx 6 nd a K L])) = some (.loop (.exit 0) (qs bx (se88_7 (I q) (P0 bx) (P1 bx) (I tk)) [Nb N F,Wx 6 nd a K L])))
  (hlp : ev cfg (.loop 88 13 (qs bx (sh88_13 (I q) (P0 bx) (I tk) (.dat K) (I kr.length) (I 0)) [Nb N F,Wx 6 nd a K L])) = some (.loop (.exit 2) (qs bx (se88_13 (I t)) [Nb N F,Wx 6 nd a K L]))) :
  Jq (.call 88 [Nq N F,Wq 6 nd a K L,I q] bx) = Rq (I t) := by
 obtain ⟨w1,g1,g2,g3⟩ := hK
 obtain ⟨w2,q1,q2,q3⟩ := hX
 have w0 : IntKind.wrap .i64 (0 + 1) = 1 := rfl
 cases c3 : (nd == q)
 ·simp only [c3,Bool.false_eq_true,if_false] at hl7
  simp only [go_sem,seval,hN,hF,g1,g3,q1,q3,hL,hO,hl7,hlp,c3]
 ·simp only [c3,if_true] at hl7
  simp only [go_sem,seval,hN,hF,g1,g3,q1,q3,hL,hO,hl7,hlp,c3,w0]
end
section
variable {bx : List Box} {os ws cs gs : List (List D)} {i l : Nat} {s to b_ la lv : Int}
theorem fround_i0 (hl : l < bx.length) {z0 z1 z2 z3 z4 : Box} (y0 : z0.all (cellLt (bx.length + 5)) = true) (y1 : z1.all (cellLt (bx.length + 5)) = true) (y2 : z2.all (cellLt (bx.length + 5)) = true) (y3 : z3.all (cellLt (bx.length + 5)) = true) (y4 : z4.all (cellLt (bx.length + 5)) = true) (hget : ws[i]? = some [dI to,dI b_,dI la]) (hlt : i < ws.length) (hmax : ws.length < 9223372036854775808) (hb2 : decide (b_ >= 0) = false) :
  Jq (.loop 64 18 (qs bx (sh64_18 (.ptr l 0) (I s) (.own true 1 os) (I lv) (P4 bx) (.own true 1 cs) (.own true 1 gs) (.own true 3 ws) (I ws.length) (I i)) [z0,z1,z2,z3,z4])) =
   ev cfg (.loop 64 18 (qs bx (sh64_18 (.ptr l 0) (I s) (.own true 1 os) (I lv) (P4 bx) (.own true 1 cs) (.own true 1 gs) (.own true 3 ws) (I ws.length) (I ((i + 1 : Nat) : Int))) [z0,z1,z2,z3,z4])) := by
 simp (maxSteps := 2000000) only [go_sem,seval,hl,nat_lt hlt,nat_neg,tnc,hget,hlt,hb2,y0,y1,y2,y3,y4,nat_succ hlt hmax]
theorem fround_i1 (hl : l < bx.length) {z0 z1 z2 z3 z4 : Box} (y0 : z0.all (cellLt (bx.length + 5)) = true) (y1 : z1.all (cellLt (bx.length + 5)) = true) (y2 : z2.all (cellLt (bx.length + 5)) = true) (y3 : z3.all (cellLt (bx.length + 5)) = true) (y4 : z4.all (cellLt (bx.length + 5)) = true) (hget : ws[i]? = some [dI to,dI b_,dI la]) (hlt : i < ws.length) (hmax : ws.length < 9223372036854775808) (hb2 : decide (b_ >= 0) = true) (hgs : (gs.length + 1) * 8 <= 140737488355328) :
  Jq (.loop 64 18 (qs bx (sh64_18 (.ptr l 0) (I s) (.own true 1 os) (I lv) (P4 bx) (.own true 1 cs) (.own true 1 gs) (.own true 3 ws) (I ws.length) (I i)) [z0,z1,z2,z3,z4])) =
   ev cfg (.loop 64 18 (qs bx (sh64_18 (.ptr l 0) (I s) (.own true 1 os) (I lv) (P4 bx) (.own true 1 cs) (.own true 1 (gs ++ [[dI b_]])) (.own true 3 ws) (I ws.length) (I ((i + 1 : Nat) : Int))) [z0,z1,z2,z3,z4])) := by
 simp (maxSteps := 2000000) only [go_sem,seval,hl,nat_lt hlt,nat_neg,tnc,hget,hlt,hb2,y0,y1,y2,y3,y4,nat_succ hlt hmax,hgs]
theorem fround_iend (hl : l < bx.length) {z0 z1 z2 z3 z4 : Box} (y0 : z0.all (cellLt (bx.length + 5)) = true) (y1 : z1.all (cellLt (bx.length + 5)) = true) (y2 : z2.all (cellLt (bx.length + 5)) = true) (y3 : z3.all (cellLt (bx.length + 5)) = true) (y4 : z4.all (cellLt (bx.length + 5)) = true) {m : Nat} (hge : m <= i) :
  Jq (.loop 64 18 (qs bx (sh64_18 (.ptr l 0) (I s) (.own true 1 os) (I lv) (P4 bx) (.own true 1 cs) (.own true 1 gs) (.own true 3 ws) (I m) (I i)) [z0,z1,z2,z3,z4])) = some (.loop (.exit 2) (qs bx (se64_18 (.ptr l 0) (I s) (.own true 1 os) (I lv) (P4 bx) (.own true 1 cs) (.own true 1 gs)) [z0,z1,z2,z3,z4])) := by
 simp (maxSteps := 2000000) only [go_sem,seval,hl,nat_ge hge,y0,y1,y2,y3,y4]
end
section
variable {bx : List Box} {rows lr os ir oj : List (List D)} {N F : D} {i l o1 : Nat} {dto dby dla : Int} {c : Bool}
theorem fround_p1 (hl : l < bx.length) (hb : bx[l]? = some [.dat N,.dat F,.own true 5 rows,.own true 3 lr]) (hlt : i < rows.length) (hmax : rows.length < 9223372036854775808) (h1 : ev cfg (.call 94 [.ptr l 0,I i,I 5,B false] bx) = Rq (B false)) :
  Jq (.loop 64 2 (q0 bx (sh64_2 (.ptr l 0) (I rows.length) (I i)))) = ev cfg (.loop 64 2 (q0 bx (sh64_2 (.ptr l 0) (I rows.length) (I ((i + 1 : Nat) : Int))))) := by
 simp (maxSteps := 2000000) only [go_sem,seval,hl,hb,nat_lt hlt,nat_neg,tnc,nat_succ hlt hmax,h1]
theorem fround_p2 (hl : l < bx.length) (hb : bx[l]? = some [.dat N,.dat F,.own true 5 rows,.own true 3 lr]) (hlt : i < rows.length) (hmax : rows.length < 9223372036854775808) (h1 : ev cfg (.call 94 [.ptr l 0,I i,I 5,B false] bx) = Rq (B true)) (h2 : ev cfg (.call 83 [.ptr l 0,I i] bx) = Rq (.own true 1 ir)) (n2 : ((ir.length : Int) != 2) = true) :
  Jq (.loop 64 2 (q0 bx (sh64_2 (.ptr l 0) (I rows.length) (I i)))) = ev cfg (.loop 64 2 (q0 bx (sh64_2 (.ptr l 0) (I rows.length) (I ((i + 1 : Nat) : Int))))) := by
 simp (maxSteps := 2000000) only [go_sem,seval,hl,hb,nat_lt hlt,nat_neg,tnc,nat_succ hlt hmax,h1,h2,n2]
theorem fround_p3 (hl : l < bx.length) (hb : bx[l]? = some [.dat N,.dat F,.own true 5 rows,.own true 3 lr]) (hlt : i < rows.length) (hmax : rows.length < 9223372036854775808) (h1 : ev cfg (.call 94 [.ptr l 0,I i,I 5,B false] bx) = Rq (B true)) (h2 : ev cfg (.call 83 [.ptr l 0,I i] bx) = Rq (.own true 1 ir)) (n2 : ((ir.length : Int) != 2) = false) (h3 : ev cfg (.call 84 [.ptr l 0,I i] bx) = Rq (.own true 1 ([dI o1] :: oj))) (h4 : ev cfg (.call 98 [.ptr l 0,I o1] bx) = Rq (Aq dto dby dla)) (h5 : ∀ r : Box,ev cfg (.call 94 [.ptr l 0,I dto,I 5,B true] (bx ++ [r])) = Rq (B false)) :
  Jq (.loop 64 2 (q0 bx (sh64_2 (.ptr l 0) (I rows.length) (I i)))) = ev cfg (.loop 64 2 (q0 bx (sh64_2 (.ptr l 0) (I rows.length) (I ((i + 1 : Nat) : Int))))) := by
 have hz : 0 < oj.length + 1 := by omega
 simp (maxSteps := 2000000) only [go_sem,seval,hl,hb,nat_lt hlt,nat_neg,tnc,nat_succ hlt hmax,h1,h2,n2,h3,h4,h5,hz]
theorem fround_p4 (hl : l < bx.length) (hb : bx[l]? = some [.dat N,.dat F,.own true 5 rows,.own true 3 lr]) (hlt : i < rows.length) (hmax : rows.length < 9223372036854775808) (h1 : ev cfg (.call 94 [.ptr l 0,I i,I 5,B false] bx) = Rq (B true)) (h2 : ev cfg (.call 83 [.ptr l 0,I i] bx) = Rq (.own true 1 ir)) (n2 : ((ir.length : Int) != 2) = false) (h3 : ev cfg (.call 84 [.ptr l 0,I i] bx) = Rq (.own true 1 ([dI o1] :: oj))) (h4 : ev cfg (.call 98 [.ptr l 0,I o1] bx) = Rq (Aq dto dby dla)) (h5 : ∀ r : Box,ev cfg (.call 94 [.ptr l 0,I dto,I 5,B true] (bx ++ [r])) = Rq (B true)) (h6 : ∀ r : Box,ev cfg (.call 84 [.ptr l 0,I dto] (bx ++ [r])) = Rq (.own true 1 os)) (n6 : ((os.length : Int) != 2) = true) :
  Jq (.loop 64 2 (q0 bx (sh64_2 (.ptr l 0) (I rows.length) (I i)))) = ev cfg (.loop 64 2 (q0 bx (sh64_2 (.ptr l 0) (I rows.length) (I ((i + 1 : Nat) : Int))))) := by
 have hz : 0 < oj.length + 1 := by omega
 simp (maxSteps := 2000000) only [go_sem,seval,hl,hb,nat_lt hlt,nat_neg,tnc,nat_succ hlt hmax,h1,h2,n2,h3,h4,h5,h6,n6,hz]
theorem fround_end {m : Nat} (hl : l < bx.length) (hge : m <= i) :
  Jq (.loop 64 2 (q0 bx (sh64_2 (.ptr l 0) (I m) (I i)))) = some (.loop (.exit 0) (q0 bx (se64_2 .dead))) := by
 simp (maxSteps := 2000000) only [go_sem,seval,hl,nat_ge hge]
theorem fround_f (hl : l < bx.length) (hb : bx[l]? = some [.dat N,.dat F,.own true 5 rows,.own true 3 lr])
  (hloop : ev cfg (.loop 64 2 (q0 bx (sh64_2 (.ptr l 0) (I rows.length) (I 0)))) = some (.loop (.exit 0) (q0 bx (se64_2 .dead)))) :
  Jq (.call 64 [.ptr l 0] bx) = Rq (B false) := by
 simp (maxSteps := 2000000) only [go_sem,seval,hl,hb,hloop]
theorem fround_t (hl : l < bx.length) (hb : bx[l]? = some [.dat N,.dat F,.own true 5 rows,.own true 3 lr]) {c : Box}
  (hloop : ev cfg (.loop 64 2 (q0 bx (sh64_2 (.ptr l 0) (I rows.length) (I 0)))) = some (.loop .ret ⟨(se64_2 (B true)),bx.set l c,bx.length,some l,false⟩)) :
  Jq (.call 64 [.ptr l 0] bx) = some (.ret (B true) (some ⟨bx.set l c,l,false⟩)) := by
 simp (maxSteps := 2000000) only [go_sem,seval,hl,hb,hloop]
end
section
variable {bx : List Box} {rows lr ir oj : List (List D)} {N F : D} {i l o1 oa ob : Nat} {dto dby dla ato aby ala bto bby bla : Int}
theorem fround_p5 (hl : l < bx.length) (hb : bx[l]? = some [.dat N,.dat F,.own true 5 rows,.own true 3 lr]) (hlt : i < rows.length) (hmax : rows.length < 9223372036854775808) (h1 : ev cfg (.call 94 [.ptr l 0,I i,I 5,B false] bx) = Rq (B true)) (h2 : ev cfg (.call 83 [.ptr l 0,I i] bx) = Rq (.own true 1 ir)) (n2 : ((ir.length : Int) != 2) = false) (h3 : ev cfg (.call 84 [.ptr l 0,I i] bx) = Rq (.own true 1 ([dI o1] :: oj))) (h4 : ev cfg (.call 98 [.ptr l 0,I o1] bx) = Rq (Aq dto dby dla)) (h5 : ∀ r : Box,ev cfg (.call 94 [.ptr l 0,I dto,I 5,B true] (bx ++ [r])) = Rq (B true)) (h6 : ∀ r : Box,ev cfg (.call 84 [.ptr l 0,I dto] (bx ++ [r])) = Rq (.own true 1 [[dI oa],[dI ob]])) (h7 : ∀ r : Box,ev cfg (.call 98 [.ptr l 0,I oa] (bx ++ [r])) = Rq (Aq ato aby ala)) (h8 : ∀ r : Box,ev cfg (.call 98 [.ptr l 0,I ob] (bx ++ [r])) = Rq (Aq bto bby bla)) (n9 : ((ato == (i : Int)) == (bto == (i : Int))) = true) :
  Jq (.loop 64 2 (q0 bx (sh64_2 (.ptr l 0) (I rows.length) (I i)))) = ev cfg (.loop 64 2 (q0 bx (sh64_2 (.ptr l 0) (I rows.length) (I ((i + 1 : Nat) : Int))))) := by
 have hz : 0 < oj.length + 1 := by omega
 have e2 : ((((0 + 1 + 1 : Nat)) : Int) != 2) = false := rfl
 have e3 : ((2 : Int) != 2) = false := rfl
 simp (maxSteps := 2000000) only [go_sem,seval,hl,hb,nat_lt hlt,nat_neg,tnc,nat_succ hlt hmax,h1,h2,n2,h3,h4,h5,h6,h7,h8,n9,hz,e2,e3]
end
section
variable {bx : List Box} {rows lr gs ir ks2 ls2 oj : List (List D)} {N F K L K2 L2 QK QL RK RL : D} {i l o1 sj oa ob : Nat} {k n a f t w qk qn qa rk rn ra dby dla ato aby ala bto bby bla f2 t2 w2 : Int}
theorem fround_go0 (hl : l < bx.length) (hb : bx[l]? = some [.dat N,.dat F,.own true 5 rows,.own true 3 lr]) (hlt : i < rows.length) (hmax : rows.length < 9223372036854775808) (h1 : ev cfg (.call 94 [.ptr l 0,I i,I 5,B false] bx) = Rq (B true)) (h2 : ev cfg (.call 83 [.ptr l 0,I i] bx) = Rq (.own true 1 ir)) (n2 : ((ir.length : Int) != 2) = false) (h3 : ev cfg (.call 84 [.ptr l 0,I i] bx) = Rq (.own true 1 ([dI o1] :: oj))) (h4 : ev cfg (.call 98 [.ptr l 0,I o1] bx) = Rq (Aq (sj : Nat) dby dla)) (h5 : ∀ r : Box,ev cfg (.call 94 [.ptr l 0,I (sj : Nat),I 5,B true] (bx ++ [r])) = Rq (B true)) (h6 : ∀ r : Box,ev cfg (.call 84 [.ptr l 0,I (sj : Nat)] (bx ++ [r])) = Rq (.own true 1 [[dI oa],[dI ob]])) (h7 : ∀ r : Box,ev cfg (.call 98 [.ptr l 0,I oa] (bx ++ [r])) = Rq (Aq ato aby ala)) (h8 : ∀ r : Box,ev cfg (.call 98 [.ptr l 0,I ob] (bx ++ [r])) = Rq (Aq bto bby bla)) (n9 : (ato == (i : Int)) = false) (n10 : (bto == (i : Int)) = true) (hri : rows[i]? = some [dI f,dI t,dI w,K2,L2]) (hra : rows[sj]? = some [dI k,dI n,dI a,K,L]) (hQK : Oq QK) (hQL : Oq QL) (hRK : Oq RK) (hRL : Oq RL)
  (hp1 : ∀ r1 r2 r3 r4 : Box,ev cfg (.call 97 [.ptr l 0,Aq (sj : Nat) dby dla] (bx ++ [r1,r2,r3,r4])) = Rq (Wq qk qn qa QK QL))
  (hp2 : ∀ r1 r2 r3 r4 : Box,ev cfg (.call 97 [.ptr l 0,Aq bto bby bla] (bx ++ [r1,r2,r3,r4])) = Rq (Wq rk rn ra RK RL))
  (hoj : ∀ r0 r1 r2 r3 r4 : Box,ev cfg (.call 84 [.ptr l 0,I i] (bx ++ [r0,r1,r2,r3,r4])) = Rq (.own true 1 ([dI o1] :: oj)))
  (hin : ∀ z0 z1 z2 z3 z4 : Box,z0.all (cellLt (bx.length + 5)) = true -> z1.all (cellLt (bx.length + 5)) = true -> z2.all (cellLt (bx.length + 5)) = true -> z3.all (cellLt (bx.length + 5)) = true -> z4.all (cellLt (bx.length + 5)) = true →
   ev cfg (.loop 64 18 (qs bx (sh64_18 (.ptr l 0) (I i) (.own true 1 [[dI oa],[dI ob]]) (I 0) (P4 bx) (.own true 1 [[dI o1],[dI dla],[dI ob],[dI bla]]) (.own true 1 [[dI (sj : Nat)]]) (.own true 3 [[dI (sj : Nat),dI dby,dI dla],[dI bto,dI bby,dI bla]]) (I 2) (I 0)) [z0,z1,z2,z3,z4])) = some (.loop (.exit 2) (qs bx (se64_18 (.ptr l 0) (I i) (.own true 1 [[dI oa],[dI ob]]) (I 0) (P4 bx) (.own true 1 [[dI o1],[dI dla],[dI ob],[dI bla]]) (.own true 1 gs)) [z0,z1,z2,z3,z4])))
  (hget2 : lr[oa]? = some [dI f2,dI t2,dI w2])
  (hdr : ∀ r0 r1 r2 r3 r4 : Box,ev cfg (.call 93 [.ptr l 0,.dat (.sl 1 gs),.dat (.sl 1 [[dI o1],[dI dla],[dI ob],[dI bla]])] (bx.set l [.dat N,.dat F,.own true 5 (rows.set i [dI 7,dI n,dI 0,.sl 5 [[dI qk,dI qn,dI qa,QK,QL],[dI rk,dI rn,dI ra,RK,RL]],.nil]),.own true 3 (lr.set oa [dI (i : Nat),dI t2,dI w2])] ++ [r0,r1,r2,r3,r4])) = some (.ret (.tup []) (some ⟨bx.set l [.dat N,.dat F,mkS 5 ks2,mkS 3 ls2] ++ [r0,r1,r2,r3,r4],l,false⟩))) :
  Jq (.loop 64 2 (q0 bx (sh64_2 (.ptr l 0) (I rows.length) (I i)))) = some (.loop .ret ⟨(se64_2 (B true)),bx.set l [.dat N,.dat F,mkS 5 ks2,mkS 3 ls2],bx.length,some l,false⟩) := by
 have hz : 0 < oj.length + 1 := by omega
 have e2 : ((((0 + 1 + 1 : Nat)) : Int) != 2) = false := rfl
 have e3 : ((2 : Int) != 2) = false := rfl
 have hlo2 : oa < lr.length := (gsi.1 hget2).1
 have hls : sj < rows.length := (gsi.1 hra).1
 have hin' := hin [I (sj : Nat),I dby,I dla] [I ato,I aby,I ala] [I bto,I bby,I bla] [I bto,I bby,I bla] (Wx 7 n 0 (.sl 5 [[dI qk,dI qn,dI qa,QK,QL],[dI rk,dI rn,dI ra,RK,RL]]) .nil) rfl rfl rfl rfl rfl
 simp (maxSteps := 2000000) only [go_sem,seval,hl,hb,nat_lt hlt,nat_neg,tnc,nat_succ hlt hmax,h1,h2,n2,h3,h4,h5,h6,h7,h8,n9,n10,hz,e2,e3,hri,hra,hls,hQK,hQL,hRK,hRL,hp1,hp2,hoj,hin',hget2,hlo2,hlt,hdr,isCellIn,gss hl,lls]
end
section
variable {bx : List Box} {rows lr gs ir ks2 ls2 oj : List (List D)} {N F K L K2 L2 QK QL RK RL : D} {i l o1 sj oa ob : Nat} {k n a f t w qk qn qa rk rn ra dby dla ato aby ala bto bby bla f2 t2 w2 : Int}
theorem fround_go1 (hl : l < bx.length) (hb : bx[l]? = some [.dat N,.dat F,.own true 5 rows,.own true 3 lr]) (hlt : i < rows.length) (hmax : rows.length < 9223372036854775808) (h1 : ev cfg (.call 94 [.ptr l 0,I i,I 5,B false] bx) = Rq (B true)) (h2 : ev cfg (.call 83 [.ptr l 0,I i] bx) = Rq (.own true 1 ir)) (n2 : ((ir.length : Int) != 2) = false) (h3 : ev cfg (.call 84 [.ptr l 0,I i] bx) = Rq (.own true 1 ([dI o1] :: oj))) (h4 : ev cfg (.call 98 [.ptr l 0,I o1] bx) = Rq (Aq (sj : Nat) dby dla)) (h5 : ∀ r : Box,ev cfg (.call 94 [.ptr l 0,I (sj : Nat),I 5,B true] (bx ++ [r])) = Rq (B true)) (h6 : ∀ r : Box,ev cfg (.call 84 [.ptr l 0,I (sj : Nat)] (bx ++ [r])) = Rq (.own true 1 [[dI oa],[dI ob]])) (h7 : ∀ r : Box,ev cfg (.call 98 [.ptr l 0,I oa] (bx ++ [r])) = Rq (Aq ato aby ala)) (h8 : ∀ r : Box,ev cfg (.call 98 [.ptr l 0,I ob] (bx ++ [r])) = Rq (Aq bto bby bla)) (n9 : (ato == (i : Int)) = true) (n10 : (bto == (i : Int)) = false) (hri : rows[i]? = some [dI f,dI t,dI w,K2,L2]) (hra : rows[sj]? = some [dI k,dI n,dI a,K,L]) (hQK : Oq QK) (hQL : Oq QL) (hRK : Oq RK) (hRL : Oq RL)
  (hp1 : ∀ r1 r2 r3 r4 : Box,ev cfg (.call 97 [.ptr l 0,Aq (sj : Nat) dby dla] (bx ++ [r1,r2,r3,r4])) = Rq (Wq qk qn qa QK QL))
  (hp2 : ∀ r1 r2 r3 r4 : Box,ev cfg (.call 97 [.ptr l 0,Aq ato aby ala] (bx ++ [r1,r2,r3,r4])) = Rq (Wq rk rn ra RK RL))
  (hoj : ∀ r0 r1 r2 r3 r4 : Box,ev cfg (.call 84 [.ptr l 0,I i] (bx ++ [r0,r1,r2,r3,r4])) = Rq (.own true 1 ([dI o1] :: oj)))
  (hin : ∀ z0 z1 z2 z3 z4 : Box,z0.all (cellLt (bx.length + 5)) = true -> z1.all (cellLt (bx.length + 5)) = true -> z2.all (cellLt (bx.length + 5)) = true -> z3.all (cellLt (bx.length + 5)) = true -> z4.all (cellLt (bx.length + 5)) = true →
   ev cfg (.loop 64 18 (qs bx (sh64_18 (.ptr l 0) (I i) (.own true 1 [[dI oa],[dI ob]]) (I 1) (P4 bx) (.own true 1 [[dI o1],[dI dla],[dI oa],[dI ala]]) (.own true 1 [[dI (sj : Nat)]]) (.own true 3 [[dI (sj : Nat),dI dby,dI dla],[dI ato,dI aby,dI ala]]) (I 2) (I 0)) [z0,z1,z2,z3,z4])) = some (.loop (.exit 2) (qs bx (se64_18 (.ptr l 0) (I i) (.own true 1 [[dI oa],[dI ob]]) (I 1) (P4 bx) (.own true 1 [[dI o1],[dI dla],[dI oa],[dI ala]]) (.own true 1 gs)) [z0,z1,z2,z3,z4])))
  (hget2 : lr[ob]? = some [dI f2,dI t2,dI w2])
  (hdr : ∀ r0 r1 r2 r3 r4 : Box,ev cfg (.call 93 [.ptr l 0,.dat (.sl 1 gs),.dat (.sl 1 [[dI o1],[dI dla],[dI oa],[dI ala]])] (bx.set l [.dat N,.dat F,.own true 5 (rows.set i [dI 7,dI n,dI 1,.sl 5 [[dI qk,dI qn,dI qa,QK,QL],[dI rk,dI rn,dI ra,RK,RL]],.nil]),.own true 3 (lr.set ob [dI (i : Nat),dI t2,dI w2])] ++ [r0,r1,r2,r3,r4])) = some (.ret (.tup []) (some ⟨bx.set l [.dat N,.dat F,mkS 5 ks2,mkS 3 ls2] ++ [r0,r1,r2,r3,r4],l,false⟩))) :
  Jq (.loop 64 2 (q0 bx (sh64_2 (.ptr l 0) (I rows.length) (I i)))) = some (.loop .ret ⟨(se64_2 (B true)),bx.set l [.dat N,.dat F,mkS 5 ks2,mkS 3 ls2],bx.length,some l,false⟩) := by
 have hz : 0 < oj.length + 1 := by omega
 have e2 : ((((0 + 1 + 1 : Nat)) : Int) != 2) = false := rfl
 have e3 : ((2 : Int) != 2) = false := rfl
 have hlo2 : ob < lr.length := (gsi.1 hget2).1
 have hls : sj < rows.length := (gsi.1 hra).1
 have hin' := hin [I (sj : Nat),I dby,I dla] [I ato,I aby,I ala] [I bto,I bby,I bla] [I ato,I aby,I ala] (Wx 7 n 1 (.sl 5 [[dI qk,dI qn,dI qa,QK,QL],[dI rk,dI rn,dI ra,RK,RL]]) .nil) rfl rfl rfl rfl rfl
 simp (maxSteps := 2000000) only [go_sem,seval,hl,hb,nat_lt hlt,nat_neg,tnc,nat_succ hlt hmax,h1,h2,n2,h3,h4,h5,h6,h7,h8,n9,n10,hz,e2,e3,hri,hra,hls,hQK,hQL,hRK,hRL,hp1,hp2,hoj,hin',hget2,hlo2,hlt,hdr,isCellIn,gss hl,lls]
end
end Go.Proofs.YtifckjhggamefaaGreatDoor
