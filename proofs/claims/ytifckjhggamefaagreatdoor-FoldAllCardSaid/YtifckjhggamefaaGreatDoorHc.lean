/- Rounds of the folder's round: what is passed over, the end, the call. No condition. -/
import Derived.Test.YtifckjhggamefaaGreatDoorQb
set_option linter.unusedSimpArgs false
set_option linter.unusedVariables false
set_option linter.unusedSectionVars false
namespace Go.Proofs.YtifckjhggamefaaGreatDoor
open Go Go.Vx
set_option maxHeartbeats 4000000
set_option maxRecDepth 10000
section
variable {bx : List Box} {rows lr os ir oj : List (List D)} {N F : D} {i l o1 : Nat} {dto dby dla : Int} {c : Bool}
theorem fround_p1 (hl : l < bx.length) (hb : bx[l]? = some [.dat N,.dat F,.own true 5 rows,.own true 3 lr]) (hlt : i < rows.length) (hmax : rows.length < 9223372036854775808) (h1 : ev cfg (.call 94 [.ptr l 0,I i,I 5,B false] bx) = Rq (B false)) :
  Jq (.loop 64 2 (q0 bx (sh64_2 (.ptr l 0) (I rows.length) (I i)))) = ev cfg (.loop 64 2 (q0 bx (sh64_2 (.ptr l 0) (I rows.length) (I ((i + 1 : Nat) : Int))))) := by
 simp (maxSteps := 2000000) only [go_sem,seval,hl,hb,nat_lt hlt,nat_neg,tnc,nat_succ hlt hmax,h1]
theorem fround_p2 (hl : l < bx.length) (hb : bx[l]? = some [.dat N,.dat F,.own true 5 rows,.own true 3 lr]) (hlt : i < rows.length) (hmax : rows.length < 9223372036854775808) (h1 : ev cfg (.call 94 [.ptr l 0,I i,I 5,B false] bx) = Rq (B true)) (h2 : ev cfg (.call 83 [.ptr l 0,I i] bx) = Rq (.own true 1 ir)) (n2 : ((ir.length : Int) != 2) = true) :
  Jq (.loop 64 2 (q0 bx (sh64_2 (.ptr l 0) (I rows.length) (I i)))) = ev cfg (.loop 64 2 (q0 bx (sh64_2 (.ptr l 0) (I rows.length) (I ((i + 1 : Nat) : Int))))) := by
 simp (maxSteps := 2000000) only [go_sem,seval,hl,hb,nat_lt hlt,nat_neg,tnc,nat_succ hlt hmax,h1,h2,n2]
theorem fround_p3 (hl : l < bx.length) (hb : bx[l]? = some [.dat N,.dat F,.own true 5 rows,.own true 3 lr]) (hlt : i < rows.length) (hmax : rows.length < 9223372036854775808) (h1 : ev cfg (.call 94 [.ptr l 0,I i,I 5,B false] bx) = Rq (B true)) (h2 : ev cfg (.call 83 [.ptr l 0,I i] bx) = Rq (.own true 1 ir)) (n2 : ((ir.length : Int) != 2) = false) (h3 : ev cfg (.call 84 [.ptr l 0,I i] bx) = Rq (.own true 1 ([dI o1] :: oj))) (h4 : ev cfg (.call 98 [.ptr l 0,I o1] bx) = Rq (Aq dto dby dla)) (h5 : ∀ r : Box,ev cfg (.call 94 [.ptr l 0,I dto,I 5,B true] (bx ++ [r])) = Rq (B false)) :
  Jq (.loop 64 2 (q0 bx (sh64_2 (.ptr l 0) (I rows.length) (I i)))) = ev cfg (.loop 64 2 (q0 bx (sh64_2 (.ptr l 0) (I rows.length) (I ((i + 1 : Nat) : Int))))) := by
 have hz : 0 < oj.length + 1 := by omega
 simp (maxSteps := 2000000) only [go_sem,seval,hl,hb,nat_lt hlt,nat_neg,tnc,nat_succ hlt hmax,h1,h2,n2,h3,h4,h5,hz]
theorem fround_p4 (hl : l < bx.length) (hb : bx[l]? = some [.dat N,.dat F,.own true 5 rows,.own true 3 lr]) (hlt : i < rows.length) (hmax : rows.length < 9223372036854775808) (h1 : ev cfg (.call 94 [.ptr l 0,I i,I 5,B false] bx) = Rq (B true)) (h2 : ev cfg (.call 83 [.ptr l 0,I i] bx) = Rq (.own true 1 ir)) (n2 : ((ir.length : Int) != 2) = false) (h3 : ev cfg (.call 84 [.ptr l 0,I i] bx) = Rq (.own true 1 ([dI o1] :: oj))) (h4 : ev cfg (.call 98 [.ptr l 0,I o1] bx) = Rq (Aq dto dby dla)) (h5 : ∀ r : Box,ev cfg (.call 94 [.ptr l 0,I dto,I 5,B true] (bx ++ [r])) = Rq (B true)) (h6 : ∀ r : Box,ev cfg (.call 84 [.ptr l 0,I dto] (bx ++ [r])) = Rq (.own true 1 os)) (n6 : ((os.length : Int) != 2) = true) :
  Jq (.loop 64 2 (q0 bx (sh64_2 (.ptr l 0) (I rows.length) (I i)))) = ev cfg (.loop 64 2 (q0 bx (sh64_2 (.ptr l 0) (I rows.length) (I ((i + 1 : Nat) : Int))))) := by
 have hz : 0 < oj.length + 1 := by omega
 simp (maxSteps := 2000000) only [go_sem,seval,hl,hb,nat_lt hlt,nat_neg,tnc,nat_succ hlt hmax,h1,h2,n2,h3,h4,h5,h6,n6,hz]
theorem fround_end {m : Nat} (hl : l < bx.length) (hge : m <= i) :
  Jq (.loop 64 2 (q0 bx (sh64_2 (.ptr l 0) (I m) (I i)))) = some (.loop (.exit 0) (q0 bx (se64_2 .dead))) := by
 simp (maxSteps := 2000000) only [go_sem,seval,hl,nat_ge hge]
theorem fround_f (hl : l < bx.length) (hb : bx[l]? = some [.dat N,.dat F,.own true 5 rows,.own true 3 lr])
  (hloop : ev cfg (.loop 64 2 (q0 bx (sh64_2 (.ptr l 0) (I rows.length) (I 0)))) = some (.loop (.exit 0) (q0 bx (se64_2 .dead)))) :
  Jq (.call 64 [.ptr l 0] bx) = Rq (B false) := by
 simp (maxSteps := 2000000) only [go_sem,seval,hl,hb,hloop]
theorem fround_t (hl : l < bx.length) (hb : bx[l]? = some [.dat N,.dat F,.own true 5 rows,.own true 3 lr]) {c : Box}
  (hloop : ev cfg (.loop 64 2 (q0 bx (sh64_2 (.ptr l 0) (I rows.length) (I 0)))) = some (.loop .ret ⟨(se64_2 (B true)),bx.set l c,bx.length,some l,false⟩)) :
  Jq (.call 64 [.ptr l 0] bx) = some (.ret (B true) (some ⟨bx.set l c,l,false⟩)) := by
 simp (maxSteps := 2000000) only [go_sem,seval,hl,hb,hloop]
end
section
variable {bx : List Box} {rows lr ir oj : List (List D)} {N F : D} {i l o1 oa ob : Nat} {dto dby dla ato aby ala bto bby bla : Int}
theorem fround_p5 (hl : l < bx.length) (hb : bx[l]? = some [.dat N,.dat F,.own true 5 rows,.own true 3 lr]) (hlt : i < rows.length) (hmax : rows.length < 9223372036854775808) (h1 : ev cfg (.call 94 [.ptr l 0,I i,I 5,B false] bx) = Rq (B true)) (h2 : ev cfg (.call 83 [.ptr l 0,I i] bx) = Rq (.own true 1 ir)) (n2 : ((ir.length : Int) != 2) = false) (h3 : ev cfg (.call 84 [.ptr l 0,I i] bx) = Rq (.own true 1 ([dI o1] :: oj))) (h4 : ev cfg (.call 98 [.ptr l 0,I o1] bx) = Rq (Aq dto dby dla)) (h5 : ∀ r : Box,ev cfg (.call 94 [.ptr l 0,I dto,I 5,B true] (bx ++ [r])) = Rq (B true)) (h6 : ∀ r : Box,ev cfg (.call 84 [.ptr l 0,I dto] (bx ++ [r])) = Rq (.own true 1 [[dI oa],[dI ob]])) (h7 : ∀ r : Box,ev cfg (.call 98 [.ptr l 0,I oa] (bx ++ [r])) = Rq (Aq ato aby ala)) (h8 : ∀ r : Box,ev cfg (.call 98 [.ptr l 0,I ob] (bx ++ [r])) = Rq (Aq bto bby bla)) (n9 : ((ato == (i : Int)) == (bto == (i : Int))) = true) :
  Jq (.loop 64 2 (q0 bx (sh64_2 (.ptr l 0) (I rows.length) (I i)))) = ev cfg (.loop 64 2 (q0 bx (sh64_2 (.ptr l 0) (I rows.length) (I ((i + 1 : Nat) : Int))))) := by
 have hz : 0 < oj.length + 1 := by omega
 have e2 : ((((0 + 1 + 1 : Nat)) : Int) != 2) = false := rfl
 have e3 : ((2 : Int) != 2) = false := rfl
 simp (maxSteps := 2000000) only [go_sem,seval,hl,hb,nat_lt hlt,nat_neg,tnc,nat_succ hlt hmax,h1,h2,n2,h3,h4,h5,h6,h7,h8,n9,hz,e2,e3]
end
section
variable {bx : List Box} {rows lr gs ir ks2 ls2 oj : List (List D)} {N F K L K2 L2 QK QL RK RL : D} {i l o1 sj oa ob : Nat} {k n a f t w qk qn qa rk rn ra dby dla ato aby ala bto bby bla f2 t2 w2 : Int}
theorem fround_go0 (hl : l < bx.length) (hb : bx[l]? = some [.dat N,.dat F,.own true 5 rows,.own true 3 lr]) (hlt : i < rows.length) (hmax : rows.length < 9223372036854775808) (h1 : ev cfg (.call 94 [.ptr l 0,I i,I 5,B false] bx) = Rq (B true)) (h2 : ev cfg (.call 83 [.ptr l 0,I i] bx) = Rq (.own true 1 ir)) (n2 : ((ir.length : Int) != 2) = false) (h3 : ev cfg (.call 84 [.ptr l 0,I i] bx) = Rq (.own true 1 ([dI o1] :: oj))) (h4 : ev cfg (.call 98 [.ptr l 0,I o1] bx) = Rq (Aq (sj : Nat) dby dla)) (h5 : ∀ r : Box,ev cfg (.call 94 [.ptr l 0,I (sj : Nat),I 5,B true] (bx ++ [r])) = Rq (B true)) (h6 : ∀ r : Box,ev cfg (.call 84 [.ptr l 0,I (sj : Nat)] (bx ++ [r])) = Rq (.own true 1 [[dI oa],[dI ob]])) (h7 : ∀ r : Box,ev cfg (.call 98 [.ptr l 0,I oa] (bx ++ [r])) = Rq (Aq ato aby ala)) (h8 : ∀ r : Box,ev cfg (.call 98 [.ptr l 0,I ob] (bx ++ [r])) = Rq (Aq bto bby bla)) (n9 : (ato == (i : Int)) = false) (n10 : (bto == (i : Int)) = true) (hri : rows[i]? = some [dI f,dI t,dI w,K2,L2]) (hra : rows[sj]? = some [dI k,dI n,dI a,K,L]) (hQK : Oq QK) (hQL : Oq QL) (hRK : Oq RK) (hRL : Oq RL)
  (hp1 : ∀ r1 r2 r3 r4 : Box,ev cfg (.call 97 [.ptr l 0,Aq (sj : Nat) dby dla] (bx ++ [r1,r2,r3,r4])) = Rq (Wq qk qn qa QK QL))
  (hp2 : ∀ r1 r2 r3 r4 : Box,ev cfg (.call 97 [.ptr l 0,Aq bto bby bla] (bx ++ [r1,r2,r3,r4])) = Rq (Wq rk rn ra RK RL))
  (hoj : ∀ r0 r1 r2 r3 r4 : Box,ev cfg (.call 84 [.ptr l 0,I i] (bx ++ [r0,r1,r2,r3,r4])) = Rq (.own true 1 ([dI o1] :: oj)))
  (hin : ∀ z0 z1 z2 z3 z4 : Box,z0.all (cellLt (bx.length + 5)) = true -> z1.all (cellLt (bx.length + 5)) = true -> z2.all (cellLt (bx.length + 5)) = true -> z3.all (cellLt (bx.length + 5)) = true -> z4.all (cellLt (bx.length + 5)) = true →
   ev cfg (.loop 64 18 (qs bx (sh64_18 (.ptr l 0) (I i) (.own true 1 [[dI oa],[dI ob]]) (I 0) (P4 bx) (.own true 1 [[dI o1],[dI dla],[dI ob],[dI bla]]) (.own true 1 [[dI (sj : Nat)]]) (.own true 3 [[dI (sj : Nat),dI dby,dI dla],[dI bto,dI bby,dI bla]]) (I 2) (I 0)) [z0,z1,z2,z3,z4])) = some (.loop (.exit 2) (qs bx (se64_18 (.ptr l 0) (I i) (.own true 1 [[dI oa],[dI ob]]) (I 0) (P4 bx) (.own true 1 [[dI o1],[dI dla],[dI ob],[dI bla]]) (.own true 1 gs)) [z0,z1,z2,z3,z4])))
  (hget2 : lr[oa]? = some [dI f2,dI t2,dI w2])
  (hdr : ∀ r0 r1 r2 r3 r4 : Box,ev cfg (.call 93 [.ptr l 0,.dat (.sl 1 gs),.dat (.sl 1 [[dI o1],[dI dla],[dI ob],[dI bla]])] (bx.set l [.dat N,.dat F,.own true 5 (rows.set i [dI 7,dI n,dI 0,.sl 5 [[dI qk,dI qn,dI qa,QK,QL],[dI rk,dI rn,dI ra,RK,RL]],.nil]),.own true 3 (lr.set oa [dI (i : Nat),dI t2,dI w2])] ++ [r0,r1,r2,r3,r4])) = some (.ret (.tup []) (some ⟨bx.set l [.dat N,.dat F,mkS 5 ks2,mkS 3 ls2] ++ [r0,r1,r2,r3,r4],l,false⟩))) :
  Jq (.loop 64 2 (q0 bx (sh64_2 (.ptr l 0) (I rows.length) (I i)))) = some (.loop .ret ⟨(se64_2 (B true)),bx.set l [.dat N,.dat F,mkS 5 ks2,mkS 3 ls2],bx.length,some l,false⟩) := by
 have hz : 0 < oj.length + 1 := by omega
 have e2 : ((((0 + 1 + 1 : Nat)) : Int) != 2) = false := rfl
 have e3 : ((2 : Int) != 2) = false := rfl
 have hlo2 : oa < lr.length := (gsi.1 hget2).1
 have hls : sj < rows.length := (gsi.1 hra).1
 have hin' := hin [I (sj : Nat),I dby,I dla] [I ato,I aby,I ala] [I bto,I bby,I bla] [I bto,I bby,I bla] (Wx 7 n 0 (.sl 5 [[dI qk,dI qn,dI qa,QK,QL],[dI rk,dI rn,dI ra,RK,RL]]) .nil) rfl rfl rfl rfl rfl
 simp (maxSteps := 2000000) only [go_sem,seval,hl,hb,nat_lt hlt,nat_neg,tnc,nat_succ hlt hmax,h1,h2,n2,h3,h4,h5,h6,h7,h8,n9,n10,hz,e2,e3,hri,hra,hls,hQK,hQL,hRK,hRL,hp1,hp2,hoj,hin',hget2,hlo2,hlt,hdr,isCellIn,gss hl,lls]
end
section
variable {bx : List Box} {rows lr gs ir ks2 ls2 oj : List (List D)} {N F K L K2 L2 QK QL RK RL : D} {i l o1 sj oa ob : Nat} {k n a f t w qk qn qa rk rn ra dby dla ato aby ala bto bby bla f2 t2 w2 : Int}
theorem fround_go1 (hl : l < bx.length) (hb : bx[l]? = some [.dat N,.dat F,.own true 5 rows,.own true 3 lr]) (hlt : i < rows.length) (hmax : rows.length < 9223372036854775808) (h1 : ev cfg (.call 94 [.ptr l 0,I i,I 5,B false] bx) = Rq (B true)) (h2 : ev cfg (.call 83 [.ptr l 0,I i] bx) = Rq (.own true 1 ir)) (n2 : ((ir.length : Int) != 2) = false) (h3 : ev cfg (.call 84 [.ptr l 0,I i] bx) = Rq (.own true 1 ([dI o1] :: oj))) (h4 : ev cfg (.call 98 [.ptr l 0,I o1] bx) = Rq (Aq (sj : Nat) dby dla)) (h5 : ∀ r : Box,ev cfg (.call 94 [.ptr l 0,I (sj : Nat),I 5,B true] (bx ++ [r])) = Rq (B true)) (h6 : ∀ r : Box,ev cfg (.call 84 [.ptr l 0,I (sj : Nat)] (bx ++ [r])) = Rq (.own true 1 [[dI oa],[dI ob]])) (h7 : ∀ r : Box,ev cfg (.call 98 [.ptr l 0,I oa] (bx ++ [r])) = Rq (Aq ato aby ala)) (h8 : ∀ r : Box,ev cfg (.call 98 [.ptr l 0,I ob] (bx ++ [r])) = Rq (Aq bto bby bla)) (n9 : (ato == (i : Int)) = true) (n10 : (bto == (i : Int)) = false) (hri : rows[i]? = some [dI f,dI t,dI w,K2,L2]) (hra : rows[sj]? = some [dI k,dI n,dI a,K,L]) (hQK : Oq QK) (hQL : Oq QL) (hRK : Oq RK) (hRL : Oq RL)
  (hp1 : ∀ r1 r2 r3 r4 : Box,ev cfg (.call 97 [.ptr l 0,Aq (sj : Nat) dby dla] (bx ++ [r1,r2,r3,r4])) = Rq (Wq qk qn qa QK QL))
  (hp2 : ∀ r1 r2 r3 r4 : Box,ev cfg (.call 97 [.ptr l 0,Aq ato aby ala] (bx ++ [r1,r2,r3,r4])) = Rq (Wq rk rn ra RK RL))
  (hoj : ∀ r0 r1 r2 r3 r4 : Box,ev cfg (.call 84 [.ptr l 0,I i] (bx ++ [r0,r1,r2,r3,r4])) = Rq (.own true 1 ([dI o1] :: oj)))
  (hin : ∀ z0 z1 z2 z3 z4 : Box,z0.all (cellLt (bx.length + 5)) = true -> z1.all (cellLt (bx.length + 5)) = true -> z2.all (cellLt (bx.length + 5)) = true -> z3.all (cellLt (bx.length + 5)) = true -> z4.all (cellLt (bx.length + 5)) = true →
   ev cfg (.loop 64 18 (qs bx (sh64_18 (.ptr l 0) (I i) (.own true 1 [[dI oa],[dI ob]]) (I 1) (P4 bx) (.own true 1 [[dI o1],[dI dla],[dI oa],[dI ala]]) (.own true 1 [[dI (sj : Nat)]]) (.own true 3 [[dI (sj : Nat),dI dby,dI dla],[dI ato,dI aby,dI ala]]) (I 2) (I 0)) [z0,z1,z2,z3,z4])) = some (.loop (.exit 2) (qs bx (se64_18 (.ptr l 0) (I i) (.own true 1 [[dI oa],[dI ob]]) (I 1) (P4 bx) (.own true 1 [[dI o1],[dI dla],[dI oa],[dI ala]]) (.own true 1 gs)) [z0,z1,z2,z3,z4])))
  (hget2 : lr[ob]? = some [dI f2,dI t2,dI w2])
  (hdr : ∀ r0 r1 r2 r3 r4 : Box,ev cfg (.call 93 [.ptr l 0,.dat (.sl 1 gs),.dat (.sl 1 [[dI o1],[dI dla],[dI oa],[dI ala]])] (bx.set l [.dat N,.dat F,.own true 5 (rows.set i [dI 7,dI n,dI 1,.sl 5 [[dI qk,dI qn,dI qa,QK,QL],[dI rk,dI rn,dI ra,RK,RL]],.nil]),.own true 3 (lr.set ob [dI (i : Nat),dI t2,dI w2])] ++ [r0,r1,r2,r3,r4])) = some (.ret (.tup []) (some ⟨bx.set l [.dat N,.dat F,mkS 5 ks2,mkS 3 ls2] ++ [r0,r1,r2,r3,r4],l,false⟩))) :
  Jq (.loop 64 2 (q0 bx (sh64_2 (.ptr l 0) (I rows.length) (I i)))) = some (.loop .ret ⟨(se64_2 (B true)),bx.set l [.dat N,.dat F,mkS 5 ks2,mkS 3 ls2],bx.length,some l,false⟩) := by
 have hz : 0 < oj.length + 1 := by omega
 have e2 : ((((0 + 1 + 1 : Nat)) : Int) != 2) = false := rfl
 have e3 : ((2 : Int) != 2) = false := rfl
 have hlo2 : ob < lr.length := (gsi.1 hget2).1
 have hls : sj < rows.length := (gsi.1 hra).1
 have hin' := hin [I (sj : Nat),I dby,I dla] [I ato,I aby,I ala] [I bto,I bby,I bla] [I ato,I aby,I ala] (Wx 7 n 1 (.sl 5 [[dI qk,dI qn,dI qa,QK,QL],[dI rk,dI rn,dI ra,RK,RL]]) .nil) rfl rfl rfl rfl rfl
 simp (maxSteps := 2000000) only [go_sem,seval,hl,hb,nat_lt hlt,nat_neg,tnc,nat_succ hlt hmax,h1,h2,n2,h3,h4,h5,h6,h7,h8,n9,n10,hz,e2,e3,hri,hra,hls,hQK,hQL,hRK,hRL,hp1,hp2,hoj,hin',hget2,hlo2,hlt,hdr,isCellIn,gss hl,lls]
end
section
variable {bx : List Box} {ws cs gs ks ps : List (List D)} {w0 : List D} {K L QK QL : D} {i l : Nat} {k n a q s to b_ la qk qn qa kd jj : Int} {v : Bool}
theorem fclosed_i000 (hl : l < bx.length) (hget : ws[i]? = some [dI to,dI b_,dI la]) (hlt : i < ws.length) (hmax : ws.length < 9223372036854775808) (hb2 : decide (b_ >= 0) = false) (hkd : (kd == 6) = false) (hQK : Oq QK) (hQL : Oq QL) (hcs : (cs.length + 1) * 8 <= 140737488355328) (hp : ∀ r1 r2 : Box,ev cfg (.call 97 [.ptr l 0,Aq to b_ la] (bx ++ [r1,r2])) = Rq (Wq qk qn qa QK QL)) :
  Jq (.loop 63 15 (qs bx (sh63_15 (.ptr l 0) (I s) (I kd) (I jj) (P0 bx) (.own true 1 gs) (.own true 1 cs) (.own v 3 ws) (I ws.length) (I i)) [Wx kd n 0 .nil .nil])) =
   ev cfg (.loop 63 15 (qs bx (sh63_15 (.ptr l 0) (I s) (I kd) (I jj) (P0 bx) (.own true 1 gs) (.own true 1 (cs ++ [[dI la]])) (.own v 3 ws) (I ws.length) (I ((i + 1 : Nat) : Int))) [[I kd,I n,I 0,.own true 5 [[dI qk,dI qn,dI qa,QK,QL]],.dat .nil]])) := by
 simp only [go_sem,seval,hl,nat_lt hlt,nat_neg,tnc,hget,hlt,hb2,hkd,hQK,hQL,hcs,hp,nat_succ hlt hmax]
theorem fclosed_i001 (hl : l < bx.length) (hget : ws[i]? = some [dI to,dI b_,dI la]) (hlt : i < ws.length) (hmax : ws.length < 9223372036854775808) (hb2 : decide (b_ >= 0) = true) (hkd : (kd == 6) = false) (hQK : Oq QK) (hQL : Oq QL) (hcs : (cs.length + 1) * 8 <= 140737488355328) (hgs : (gs.length + 1) * 8 <= 140737488355328) (hp : ∀ r1 r2 : Box,ev cfg (.call 97 [.ptr l 0,Aq to b_ la] (bx ++ [r1,r2])) = Rq (Wq qk qn qa QK QL)) :
  Jq (.loop 63 15 (qs bx (sh63_15 (.ptr l 0) (I s) (I kd) (I jj) (P0 bx) (.own true 1 gs) (.own true 1 cs) (.own v 3 ws) (I ws.length) (I i)) [Wx kd n 0 .nil .nil])) =
   ev cfg (.loop 63 15 (qs bx (sh63_15 (.ptr l 0) (I s) (I kd) (I jj) (P0 bx) (.own true 1 (gs ++ [[dI b_]])) (.own true 1 (cs ++ [[dI la]])) (.own v 3 ws) (I ws.length) (I ((i + 1 : Nat) : Int))) [[I kd,I n,I 0,.own true 5 [[dI qk,dI qn,dI qa,QK,QL]],.dat .nil]])) := by
 simp only [go_sem,seval,hl,nat_lt hlt,nat_neg,tnc,hget,hlt,hb2,hkd,hQK,hQL,hcs,hp,nat_succ hlt hmax,hgs]
theorem fclosed_i010 (hl : l < bx.length) (hget : ws[i]? = some [dI to,dI b_,dI la]) (hlt : i < ws.length) (hmax : ws.length < 9223372036854775808) (hb2 : decide (b_ >= 0) = false) (hkd : (kd == 6) = false) (hQK : Oq QK) (hQL : Oq QL) (hcs : (cs.length + 1) * 8 <= 140737488355328) (hks : (ks.length + 1) * 72 <= 140737488355328) (hp : ∀ r1 r2 : Box,ev cfg (.call 97 [.ptr l 0,Aq to b_ la] (bx ++ [r1,r2])) = Rq (Wq qk qn qa QK QL)) :
  Jq (.loop 63 15 (qs bx (sh63_15 (.ptr l 0) (I s) (I kd) (I jj) (P0 bx) (.own true 1 gs) (.own true 1 cs) (.own v 3 ws) (I ws.length) (I i)) [[I kd,I n,I 0,.own true 5 ks,.dat .nil]])) =
   ev cfg (.loop 63 15 (qs bx (sh63_15 (.ptr l 0) (I s) (I kd) (I jj) (P0 bx) (.own true 1 gs) (.own true 1 (cs ++ [[dI la]])) (.own v 3 ws) (I ws.length) (I ((i + 1 : Nat) : Int))) [[I kd,I n,I 0,.own true 5 (ks ++ [[dI qk,dI qn,dI qa,QK,QL]]),.dat .nil]])) := by
 simp only [go_sem,seval,hl,nat_lt hlt,nat_neg,tnc,hget,hlt,hb2,hkd,hQK,hQL,hcs,hp,nat_succ hlt hmax,hks]
theorem fclosed_i011 (hl : l < bx.length) (hget : ws[i]? = some [dI to,dI b_,dI la]) (hlt : i < ws.length) (hmax : ws.length < 9223372036854775808) (hb2 : decide (b_ >= 0) = true) (hkd : (kd == 6) = false) (hQK : Oq QK) (hQL : Oq QL) (hcs : (cs.length + 1) * 8 <= 140737488355328) (hgs : (gs.length + 1) * 8 <= 140737488355328) (hks : (ks.length + 1) * 72 <= 140737488355328) (hp : ∀ r1 r2 : Box,ev cfg (.call 97 [.ptr l 0,Aq to b_ la] (bx ++ [r1,r2])) = Rq (Wq qk qn qa QK QL)) :
  Jq (.loop 63 15 (qs bx (sh63_15 (.ptr l 0) (I s) (I kd) (I jj) (P0 bx) (.own true 1 gs) (.own true 1 cs) (.own v 3 ws) (I ws.length) (I i)) [[I kd,I n,I 0,.own true 5 ks,.dat .nil]])) =
   ev cfg (.loop 63 15 (qs bx (sh63_15 (.ptr l 0) (I s) (I kd) (I jj) (P0 bx) (.own true 1 (gs ++ [[dI b_]])) (.own true 1 (cs ++ [[dI la]])) (.own v 3 ws) (I ws.length) (I ((i + 1 : Nat) : Int))) [[I kd,I n,I 0,.own true 5 (ks ++ [[dI qk,dI qn,dI qa,QK,QL]]),.dat .nil]])) := by
 simp only [go_sem,seval,hl,nat_lt hlt,nat_neg,tnc,hget,hlt,hb2,hkd,hQK,hQL,hcs,hp,nat_succ hlt hmax,hgs,hks]
theorem fclosed_i100 (hl : l < bx.length) (hget : ws[i]? = some [dI to,dI b_,dI la]) (hlt : i < ws.length) (hmax : ws.length < 9223372036854775808) (hb2 : decide (b_ >= 0) = false) (hkd : (kd == 6) = true) (hQK : Oq QK) (hQL : Oq QL) (hcs : (cs.length + 1) * 8 <= 140737488355328) (hK : Oq K) (hL : Oq L) (hp : ∀ r1 r2 : Box,ev cfg (.call 97 [.ptr l 0,Aq to b_ la] (bx ++ [r1,r2])) = Rq (Wq k q a K L)) (hq : Cq 92 [Wq k q a K L] (.dat (.sl 5 (w0 :: ps)))) (hr : Cq 91 [.dat (.sl 5 ps)] (Wq qk qn qa QK QL)) :
  Jq (.loop 63 15 (qs bx (sh63_15 (.ptr l 0) (I s) (I kd) (I jj) (P0 bx) (.own true 1 gs) (.own true 1 cs) (.own v 3 ws) (I ws.length) (I i)) [Wx kd n 0 .nil .nil])) =
   ev cfg (.loop 63 15 (qs bx (sh63_15 (.ptr l 0) (I s) (I kd) (I jj) (P0 bx) (.own true 1 gs) (.own true 1 (cs ++ [[dI la]])) (.own v 3 ws) (I ws.length) (I ((i + 1 : Nat) : Int))) [[I kd,I n,I 0,.own true 5 [[dI qk,dI qn,dI qa,QK,QL]],.dat .nil]])) := by
 have hl1 : ((1 : Int) <= ((ps.length + 1 : Nat) : Int)) = True := by simp; omega
 have hl2 : ((((ps.length + 1 : Nat) : Int)) <= ((ps.length + 1 : Nat) : Int)) = True := by simp
 simp only [go_sem,seval,hl,nat_lt hlt,nat_neg,tnc,hget,hlt,hb2,hkd,hQK,hQL,hcs,hp,nat_succ hlt hmax,hK,hL,hq,hr,hl1,hl2]
theorem fclosed_i101 (hl : l < bx.length) (hget : ws[i]? = some [dI to,dI b_,dI la]) (hlt : i < ws.length) (hmax : ws.length < 9223372036854775808) (hb2 : decide (b_ >= 0) = true) (hkd : (kd == 6) = true) (hQK : Oq QK) (hQL : Oq QL) (hcs : (cs.length + 1) * 8 <= 140737488355328) (hgs : (gs.length + 1) * 8 <= 140737488355328) (hK : Oq K) (hL : Oq L) (hp : ∀ r1 r2 : Box,ev cfg (.call 97 [.ptr l 0,Aq to b_ la] (bx ++ [r1,r2])) = Rq (Wq k q a K L)) (hq : Cq 92 [Wq k q a K L] (.dat (.sl 5 (w0 :: ps)))) (hr : Cq 91 [.dat (.sl 5 ps)] (Wq qk qn qa QK QL)) :
  Jq (.loop 63 15 (qs bx (sh63_15 (.ptr l 0) (I s) (I kd) (I jj) (P0 bx) (.own true 1 gs) (.own true 1 cs) (.own v 3 ws) (I ws.length) (I i)) [Wx kd n 0 .nil .nil])) =
   ev cfg (.loop 63 15 (qs bx (sh63_15 (.ptr l 0) (I s) (I kd) (I jj) (P0 bx) (.own true 1 (gs ++ [[dI b_]])) (.own true 1 (cs ++ [[dI la]])) (.own v 3 ws) (I ws.length) (I ((i + 1 : Nat) : Int))) [[I kd,I n,I 0,.own true 5 [[dI qk,dI qn,dI qa,QK,QL]],.dat .nil]])) := by
 have hl1 : ((1 : Int) <= ((ps.length + 1 : Nat) : Int)) = True := by simp; omega
 have hl2 : ((((ps.length + 1 : Nat) : Int)) <= ((ps.length + 1 : Nat) : Int)) = True := by simp
 simp only [go_sem,seval,hl,nat_lt hlt,nat_neg,tnc,hget,hlt,hb2,hkd,hQK,hQL,hcs,hp,nat_succ hlt hmax,hgs,hK,hL,hq,hr,hl1,hl2]
theorem fclosed_i110 (hl : l < bx.length) (hget : ws[i]? = some [dI to,dI b_,dI la]) (hlt : i < ws.length) (hmax : ws.length < 9223372036854775808) (hb2 : decide (b_ >= 0) = false) (hkd : (kd == 6) = true) (hQK : Oq QK) (hQL : Oq QL) (hcs : (cs.length + 1) * 8 <= 140737488355328) (hks : (ks.length + 1) * 72 <= 140737488355328) (hK : Oq K) (hL : Oq L) (hp : ∀ r1 r2 : Box,ev cfg (.call 97 [.ptr l 0,Aq to b_ la] (bx ++ [r1,r2])) = Rq (Wq k q a K L)) (hq : Cq 92 [Wq k q a K L] (.dat (.sl 5 (w0 :: ps)))) (hr : Cq 91 [.dat (.sl 5 ps)] (Wq qk qn qa QK QL)) :
  Jq (.loop 63 15 (qs bx (sh63_15 (.ptr l 0) (I s) (I kd) (I jj) (P0 bx) (.own true 1 gs) (.own true 1 cs) (.own v 3 ws) (I ws.length) (I i)) [[I kd,I n,I 0,.own true 5 ks,.dat .nil]])) =
   ev cfg (.loop 63 15 (qs bx (sh63_15 (.ptr l 0) (I s) (I kd) (I jj) (P0 bx) (.own true 1 gs) (.own true 1 (cs ++ [[dI la]])) (.own v 3 ws) (I ws.length) (I ((i + 1 : Nat) : Int))) [[I kd,I n,I 0,.own true 5 (ks ++ [[dI qk,dI qn,dI qa,QK,QL]]),.dat .nil]])) := by
 have hl1 : ((1 : Int) <= ((ps.length + 1 : Nat) : Int)) = True := by simp; omega
 have hl2 : ((((ps.length + 1 : Nat) : Int)) <= ((ps.length + 1 : Nat) : Int)) = True := by simp
 simp only [go_sem,seval,hl,nat_lt hlt,nat_neg,tnc,hget,hlt,hb2,hkd,hQK,hQL,hcs,hp,nat_succ hlt hmax,hks,hK,hL,hq,hr,hl1,hl2]
theorem fclosed_i111 (hl : l < bx.length) (hget : ws[i]? = some [dI to,dI b_,dI la]) (hlt : i < ws.length) (hmax : ws.length < 9223372036854775808) (hb2 : decide (b_ >= 0) = true) (hkd : (kd == 6) = true) (hQK : Oq QK) (hQL : Oq QL) (hcs : (cs.length + 1) * 8 <= 140737488355328) (hgs : (gs.length + 1) * 8 <= 140737488355328) (hks : (ks.length + 1) * 72 <= 140737488355328) (hK : Oq K) (hL : Oq L) (hp : ∀ r1 r2 : Box,ev cfg (.call 97 [.ptr l 0,Aq to b_ la] (bx ++ [r1,r2])) = Rq (Wq k q a K L)) (hq : Cq 92 [Wq k q a K L] (.dat (.sl 5 (w0 :: ps)))) (hr : Cq 91 [.dat (.sl 5 ps)] (Wq qk qn qa QK QL)) :
  Jq (.loop 63 15 (qs bx (sh63_15 (.ptr l 0) (I s) (I kd) (I jj) (P0 bx) (.own true 1 gs) (.own true 1 cs) (.own v 3 ws) (I ws.length) (I i)) [[I kd,I n,I 0,.own true 5 ks,.dat .nil]])) =
   ev cfg (.loop 63 15 (qs bx (sh63_15 (.ptr l 0) (I s) (I kd) (I jj) (P0 bx) (.own true 1 (gs ++ [[dI b_]])) (.own true 1 (cs ++ [[dI la]])) (.own v 3 ws) (I ws.length) (I ((i + 1 : Nat) : Int))) [[I kd,I n,I 0,.own true 5 (ks ++ [[dI qk,dI qn,dI qa,QK,QL]]),.dat .nil]])) := by
 have hl1 : ((1 : Int) <= ((ps.length + 1 : Nat) : Int)) = True := by simp; omega
 have hl2 : ((((ps.length + 1 : Nat) : Int)) <= ((ps.length + 1 : Nat) : Int)) = True := by simp
 simp only [go_sem,seval,hl,nat_lt hlt,nat_neg,tnc,hget,hlt,hb2,hkd,hQK,hQL,hcs,hp,nat_succ hlt hmax,hgs,hks,hK,hL,hq,hr,hl1,hl2]
theorem fclosed_iend (hl : l < bx.length) {m : Nat} (hge : m <= i) :
  Jq (.loop 63 15 (qs bx (sh63_15 (.ptr l 0) (I s) (I kd) (I jj) (P0 bx) (.own true 1 gs) (.own true 1 cs) (.own v 3 ws) (I m) (I i)) [[I kd,I n,I 0,mkS 5 ks,.dat .nil]])) = some (.loop (.exit 3) (qs bx (se63_15 (.ptr l 0) (I s) (I jj) (P0 bx) (.own true 1 gs) (.own true 1 cs)) [[I kd,I n,I 0,mkS 5 ks,.dat .nil]])) := by
 cases ks <;> simp only [go_sem,seval,mkS,hl,nat_ge hge]
end
end Go.Proofs.YtifckjhggamefaaGreatDoor
