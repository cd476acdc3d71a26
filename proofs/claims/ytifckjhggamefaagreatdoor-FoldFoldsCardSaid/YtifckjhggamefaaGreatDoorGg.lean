/- Rounds of the reference of layer 11: two, the fold of a gate of kind 6. No condition. -/
import Derived.Test.YtifckjhggamefaaGreatDoorAt
import Derived.Test.YtifckjhggamefaaGreatDoorPb
set_option linter.unusedSimpArgs false
set_option linter.unusedVariables false
set_option linter.unusedSectionVars false
namespace Go.Proofs.YtifckjhggamefaaGreatDoor
open Go Go.Vx
set_option maxHeartbeats 8000000
set_option maxRecDepth 10000
section
variable {bx : List Box} {kr lr os wr ck cl ps os2 : List (List D)} {p0 o0 : List D} {N F R1 R2 K' L' : D} {q s j : Nat} {kd nd ar k1 n1 a1 qf qt qk : Int}
theorem x2_f6 (hN : Oq N) (hF : Oq F) (hlt : s < kr.length) (hmax : kr.length < 9223372036854775808) (hc : Cq 103 [Nq N F, Wq kd nd ar (.sl 5 kr) (.sl 3 lr), I s] (I j))
  (hcp : Cq 99 [Wq kd nd ar (.sl 5 kr) (.sl 3 lr)] (.bag [I 9, I 0, I 0, .own true 5 kr, .own true 3 lr]))
  (hg : Cq 32 [Nq N F, Wq kd nd ar (.sl 5 kr) (.sl 3 lr), I s] (I 6)) (hs : kr[s]? = some [dI k1, dI n1, dI a1, R1, R2])
  (hos : Cq 57 [Wq kd nd ar (.sl 5 kr) (.sl 3 lr), I s] (.own true 1 (o0 :: os))) (hwy : Cq 104 [Nq N F, Wq kd nd ar (.sl 5 kr) (.sl 3 lr), I s] (.own true 3 wr))
  (hl : ev cfg (.loop 66 11 (qs bx (sh66_11 (P1 bx) (P2 bx) (I s) (I j) (P3 bx) (I 6) (P4 bx) (P5 bx) (.own true 3 wr) (I wr.length) (I 0)) [Nb N F, Wx kd nd ar (.sl 5 kr) (.sl 3 lr), [I 0, I 0, I 0, .dat .nil, .dat .nil, I 0], [I 9, I 0, I 0, .own true 5 kr, .own true 3 lr], Wx 4 n1 0 .nil .nil, [.own true 1 [[dI j]], .own true 1 (o0 :: os)]])) = some (.loop (.exit 2) (qs bx (se66_11 (P1 bx) (P2 bx) (I s) (I j) (P3 bx) (P4 bx) (P5 bx)) [Nb N F, Wx kd nd ar (.sl 5 kr) (.sl 3 lr), [I 0, I 0, I 0, .dat .nil, .dat .nil, I 0], [I 9, I 0, I 0, .own true 5 kr, .own true 3 lr], [I 4, I n1, I 0, .own true 5 (p0 :: ps), .dat .nil], [.own true 1 ck, .own true 1 cl]])))
  (hoj : Cq 57 [Wq kd nd ar (.sl 5 kr) (.sl 3 lr), I j] (.own true 1 ([dI q] :: os2))) (hq : lr[q]? = some [dI qf, dI qt, dI qk])
  (hw : Cq 102 [Wq 9 0 0 (.sl 5 (kr.set s [dI 4, dI n1, dI 0, .sl 5 (p0 :: ps), .nil])) (.sl 3 (lr.set q [dI s, dI qt, dI qk])), Nq (.sl 1 ck) (.sl 1 cl)] (Wq 9 0 0 K' L')) (o7 : Oq K') (o8 : Oq L') :
  Jq (.loop 66 2 (qs bx (sh66_2 (P0 bx) (P1 bx) (P2 bx) (I kr.length) (I s)) [Nb N F, Wx kd nd ar (.sl 5 kr) (.sl 3 lr), [I 0, I 0, I 0, .dat .nil, .dat .nil, I 0]])) = some (.loop .ret (qs bx (se66_2 (P1 bx) (P2 bx)) [Nb N F, Wx kd nd ar (.sl 5 kr) (.sl 3 lr), [I 9, I 0, I 0, .dat K', .dat L', I 2]])) := by
 have lq : q < lr.length := (gsi.1 hq).1
 have z3 : 0 < os2.length + 1 := by omega
 have h1 : decide ((j : Int) < 0) = false := dqf (by omega)
 simp (maxSteps:=9000000) only [go_sem, seval, hN, hF, nat_lt hlt, nat_neg, tnc, nat_succ hlt hmax, hlt, hc, h1, hcp, hg, hs, hos, hwy, hl, hoj, hq, lq, z3, hw, o7, o8]
end
section
variable {bx : List Box} {kr lr os wr ck cl ps os2 : List (List D)} {p0 o0 : List D} {N F R1 R2 K' L' : D} {q s j : Nat} {kd nd ar k1 n1 a1 qf qt qk : Int}
theorem x2_f7 (hN : Oq N) (hF : Oq F) (hlt : s < kr.length) (hmax : kr.length < 9223372036854775808) (hc : Cq 103 [Nq N F, Wq kd nd ar (.sl 5 kr) (.sl 3 lr), I s] (I j))
  (hcp : Cq 99 [Wq kd nd ar (.sl 5 kr) (.sl 3 lr)] (.bag [I 9, I 0, I 0, .own true 5 kr, .own true 3 lr]))
  (hg : Cq 32 [Nq N F, Wq kd nd ar (.sl 5 kr) (.sl 3 lr), I s] (I 7)) (hs : kr[s]? = some [dI k1, dI n1, dI a1, R1, R2])
  (hos : Cq 57 [Wq kd nd ar (.sl 5 kr) (.sl 3 lr), I s] (.own true 1 (o0 :: os))) (hwy : Cq 104 [Nq N F, Wq kd nd ar (.sl 5 kr) (.sl 3 lr), I s] (.own true 3 wr))
  (hl : ev cfg (.loop 66 11 (qs bx (sh66_11 (P1 bx) (P2 bx) (I s) (I j) (P3 bx) (I 7) (P4 bx) (P5 bx) (.own true 3 wr) (I wr.length) (I 0)) [Nb N F, Wx kd nd ar (.sl 5 kr) (.sl 3 lr), [I 0, I 0, I 0, .dat .nil, .dat .nil, I 0], [I 9, I 0, I 0, .own true 5 kr, .own true 3 lr], Wx 6 n1 0 .nil .nil, [.own true 1 [[dI j]], .own true 1 (o0 :: os)]])) = some (.loop (.exit 2) (qs bx (se66_11 (P1 bx) (P2 bx) (I s) (I j) (P3 bx) (P4 bx) (P5 bx)) [Nb N F, Wx kd nd ar (.sl 5 kr) (.sl 3 lr), [I 0, I 0, I 0, .dat .nil, .dat .nil, I 0], [I 9, I 0, I 0, .own true 5 kr, .own true 3 lr], [I 6, I n1, I 0, .own true 5 (p0 :: ps), .dat .nil], [.own true 1 ck, .own true 1 cl]])))
  (hoj : Cq 57 [Wq kd nd ar (.sl 5 kr) (.sl 3 lr), I j] (.own true 1 ([dI q] :: os2))) (hq : lr[q]? = some [dI qf, dI qt, dI qk])
  (hw : Cq 102 [Wq 9 0 0 (.sl 5 (kr.set s [dI 6, dI n1, dI 0, .sl 5 (p0 :: ps), .nil])) (.sl 3 (lr.set q [dI s, dI qt, dI qk])), Nq (.sl 1 ck) (.sl 1 cl)] (Wq 9 0 0 K' L')) (o7 : Oq K') (o8 : Oq L') :
  Jq (.loop 66 2 (qs bx (sh66_2 (P0 bx) (P1 bx) (P2 bx) (I kr.length) (I s)) [Nb N F, Wx kd nd ar (.sl 5 kr) (.sl 3 lr), [I 0, I 0, I 0, .dat .nil, .dat .nil, I 0]])) = some (.loop .ret (qs bx (se66_2 (P1 bx) (P2 bx)) [Nb N F, Wx kd nd ar (.sl 5 kr) (.sl 3 lr), [I 9, I 0, I 0, .dat K', .dat L', I 2]])) := by
 have lq : q < lr.length := (gsi.1 hq).1
 have z3 : 0 < os2.length + 1 := by omega
 have h1 : decide ((j : Int) < 0) = false := dqf (by omega)
 simp (maxSteps:=9000000) only [go_sem, seval, hN, hF, nat_lt hlt, nat_neg, tnc, nat_succ hlt hmax, hlt, hc, h1, hcp, hg, hs, hos, hwy, hl, hoj, hq, lq, z3, hw, o7, o8]
end
section
variable {bx : List Box} {kr ins outs os : List (List D)} {N F K L : D} {j o : Nat} {kd nd ar g gd dt db dl : Int}
theorem x3_g (hN : Oq N) (hF : Oq F) (hK : Oq K) (hL : Oq L) (hlt : j < kr.length) (hmax : kr.length < 9223372036854775808) (hg : Cq 32 [Nq N F, Wq kd nd ar K L, I j] (I g)) (e1 : (g != 5) = true) :
  Jq (.loop 67 2 (qs bx (sh67_2 (P0 bx) (P1 bx) (P2 bx) (I kr.length) (I j)) [Nb N F, Wx kd nd ar K L, [I 0, I 0, I 0, .dat .nil, .dat .nil, I 0]])) = ev cfg (.loop 67 2 (qs bx (sh67_2 (P0 bx) (P1 bx) (P2 bx) (I kr.length) (I ((j + 1 : Nat) : Int))) [Nb N F, Wx kd nd ar K L, [I 0, I 0, I 0, .dat .nil, .dat .nil, I 0]])) := by
 simp (maxSteps:=9000000) only [go_sem, seval, hN, hF, hK, hL, nat_lt hlt, nat_neg, tnc, nat_succ hlt hmax, hg, e1]
theorem x3_i (hN : Oq N) (hF : Oq F) (hK : Oq K) (hL : Oq L) (hlt : j < kr.length) (hmax : kr.length < 9223372036854775808) (hg : Cq 32 [Nq N F, Wq kd nd ar K L, I j] (I g)) (e1 : (g != 5) = false) (hi : Cq 56 [Wq kd nd ar K L, I j] (.own true 1 ins)) (e2 : ((ins.length : Int) != 2) = true) :
  Jq (.loop 67 2 (qs bx (sh67_2 (P0 bx) (P1 bx) (P2 bx) (I kr.length) (I j)) [Nb N F, Wx kd nd ar K L, [I 0, I 0, I 0, .dat .nil, .dat .nil, I 0]])) = ev cfg (.loop 67 2 (qs bx (sh67_2 (P0 bx) (P1 bx) (P2 bx) (I kr.length) (I ((j + 1 : Nat) : Int))) [Nb N F, Wx kd nd ar K L, [I 0, I 0, I 0, .dat .nil, .dat .nil, I 0]])) := by
 simp (maxSteps:=9000000) only [go_sem, seval, hN, hF, hK, hL, nat_lt hlt, nat_neg, tnc, nat_succ hlt hmax, hg, e1, hi, e2]
theorem x3_o (hN : Oq N) (hF : Oq F) (hK : Oq K) (hL : Oq L) (hlt : j < kr.length) (hmax : kr.length < 9223372036854775808) (hg : Cq 32 [Nq N F, Wq kd nd ar K L, I j] (I g)) (e1 : (g != 5) = false) (hi : Cq 56 [Wq kd nd ar K L, I j] (.own true 1 ins)) (e2 : ((ins.length : Int) != 2) = false) (ho : Cq 57 [Wq kd nd ar K L, I j] (.own true 1 ([dI o] :: outs))) (e3 : (((outs.length + 1 : Nat) : Int) != 1) = true) :
  Jq (.loop 67 2 (qs bx (sh67_2 (P0 bx) (P1 bx) (P2 bx) (I kr.length) (I j)) [Nb N F, Wx kd nd ar K L, [I 0, I 0, I 0, .dat .nil, .dat .nil, I 0]])) = ev cfg (.loop 67 2 (qs bx (sh67_2 (P0 bx) (P1 bx) (P2 bx) (I kr.length) (I ((j + 1 : Nat) : Int))) [Nb N F, Wx kd nd ar K L, [I 0, I 0, I 0, .dat .nil, .dat .nil, I 0]])) := by
 simp (maxSteps:=9000000) only [go_sem, seval, hN, hF, hK, hL, nat_lt hlt, nat_neg, tnc, nat_succ hlt hmax, hg, e1, hi, e2, ho, e3]
theorem x3_d (hN : Oq N) (hF : Oq F) (hK : Oq K) (hL : Oq L) (hlt : j < kr.length) (hmax : kr.length < 9223372036854775808) (hg : Cq 32 [Nq N F, Wq kd nd ar K L, I j] (I g)) (e1 : (g != 5) = false) (hi : Cq 56 [Wq kd nd ar K L, I j] (.own true 1 ins)) (e2 : ((ins.length : Int) != 2) = false) (ho : Cq 57 [Wq kd nd ar K L, I j] (.own true 1 ([dI o] :: outs))) (e3 : (((outs.length + 1 : Nat) : Int) != 1) = false) (hf : Cq 106 [Nq N F, Wq kd nd ar K L, I o] (Aq dt db dl)) (hgd : Cq 32 [Nq N F, Wq kd nd ar K L, I dt] (I gd)) (e4 : (gd != 5) = true) :
  Jq (.loop 67 2 (qs bx (sh67_2 (P0 bx) (P1 bx) (P2 bx) (I kr.length) (I j)) [Nb N F, Wx kd nd ar K L, [I 0, I 0, I 0, .dat .nil, .dat .nil, I 0]])) = ev cfg (.loop 67 2 (qs bx (sh67_2 (P0 bx) (P1 bx) (P2 bx) (I kr.length) (I ((j + 1 : Nat) : Int))) [Nb N F, Wx kd nd ar K L, [I 0, I 0, I 0, .dat .nil, .dat .nil, I 0]])) := by
 have z2 : 0 < outs.length + 1 := by omega
 simp (maxSteps:=9000000) only [go_sem, seval, hN, hF, hK, hL, nat_lt hlt, nat_neg, tnc, nat_succ hlt hmax, hg, e1, hi, e2, ho, e3, hf, hgd, e4, z2]
theorem x3_l (hN : Oq N) (hF : Oq F) (hK : Oq K) (hL : Oq L) (hlt : j < kr.length) (hmax : kr.length < 9223372036854775808) (hg : Cq 32 [Nq N F, Wq kd nd ar K L, I j] (I g)) (e1 : (g != 5) = false) (hi : Cq 56 [Wq kd nd ar K L, I j] (.own true 1 ins)) (e2 : ((ins.length : Int) != 2) = false) (ho : Cq 57 [Wq kd nd ar K L, I j] (.own true 1 ([dI o] :: outs))) (e3 : (((outs.length + 1 : Nat) : Int) != 1) = false) (hf : Cq 106 [Nq N F, Wq kd nd ar K L, I o] (Aq dt db dl)) (hgd : Cq 32 [Nq N F, Wq kd nd ar K L, I dt] (I gd)) (e4 : (gd != 5) = false) (hod : Cq 57 [Wq kd nd ar K L, I dt] (.own true 1 os)) (e5 : ((os.length : Int) != 2) = true) :
  Jq (.loop 67 2 (qs bx (sh67_2 (P0 bx) (P1 bx) (P2 bx) (I kr.length) (I j)) [Nb N F, Wx kd nd ar K L, [I 0, I 0, I 0, .dat .nil, .dat .nil, I 0]])) = ev cfg (.loop 67 2 (qs bx (sh67_2 (P0 bx) (P1 bx) (P2 bx) (I kr.length) (I ((j + 1 : Nat) : Int))) [Nb N F, Wx kd nd ar K L, [I 0, I 0, I 0, .dat .nil, .dat .nil, I 0]])) := by
 have z2 : 0 < outs.length + 1 := by omega
 simp (maxSteps:=9000000) only [go_sem, seval, hN, hF, hK, hL, nat_lt hlt, nat_neg, tnc, nat_succ hlt hmax, hg, e1, hi, e2, ho, e3, hf, hgd, e4, z2, hod, e5]
end
section
variable {bx : List Box} {kr lr ins outs : List (List D)} {N F R1 R2 R3 R4 R5 R6 K' L' y1 y2 y3 y4 y5 : D} {j o d b0 b1 : Nat} {kd nd ar g gd db dl at_ ab al bt bb bl k1 n1 a1 p1 p2 p3 q1 q2 q3 qf qt qk : Int}
theorem x3_fa (hN : Oq N) (hF : Oq F) (hlt : j < kr.length) (hmax : kr.length < 9223372036854775808) (hg : Cq 32 [Nq N F, Wq kd nd ar (.sl 5 kr) (.sl 3 lr), I j] (I g)) (e1 : (g != 5) = false) (hi : Cq 56 [Wq kd nd ar (.sl 5 kr) (.sl 3 lr), I j] (.own true 1 ins)) (e2 : ((ins.length : Int) != 2) = false) (ho : Cq 57 [Wq kd nd ar (.sl 5 kr) (.sl 3 lr), I j] (.own true 1 ([dI o] :: outs))) (e3 : (((outs.length + 1 : Nat) : Int) != 1) = false) (hf : Cq 106 [Nq N F, Wq kd nd ar (.sl 5 kr) (.sl 3 lr), I o] (Aq d db dl)) (hgd : Cq 32 [Nq N F, Wq kd nd ar (.sl 5 kr) (.sl 3 lr), I (d : Nat)] (I gd)) (e4 : (gd != 5) = false) (hod : Cq 57 [Wq kd nd ar (.sl 5 kr) (.sl 3 lr), I d] (.own true 1 [[dI b0], [dI b1]])) (hwd : Cq 104 [Nq N F, Wq kd nd ar (.sl 5 kr) (.sl 3 lr), I d] (.own true 3 [[dI at_, dI ab, dI al], [dI bt, dI bb, dI bl]])) (e6 : (at_ == (j : Int)) = false) (e7 : (bt == (j : Int)) = true) (hcp : Cq 99 [Wq kd nd ar (.sl 5 kr) (.sl 3 lr)] (.bag [I 9, I 0, I 0, .own true 5 kr, .own true 3 lr])) (hd : kr[d]? = some [dI k1, dI n1, dI a1, R1, R2]) (hp1 : Cq 105 [Wq kd nd ar (.sl 5 kr) (.sl 3 lr), Aq d db dl] (Wq p1 p2 p3 R3 R4)) (hp2 : Cq 105 [Wq kd nd ar (.sl 5 kr) (.sl 3 lr), Aq bt bb bl] (Wq q1 q2 q3 R5 R6)) (o3 : Oq R3) (o4 : Oq R4) (o5 : Oq R5) (o6 : Oq R6) (hj : kr[j]? = some [y1, y2, y3, y4, y5]) (hq : lr[b0]? = some [dI qf, dI qt, dI qk]) (hw : Cq 102 [Wq 9 0 0 (.sl 5 (kr.set j [dI 7, dI n1, dI 0, .sl 5 [[dI p1, dI p2, dI p3, R3, R4], [dI q1, dI q2, dI q3, R5, R6]], .nil])) (.sl 3 (lr.set b0 [dI j, dI qt, dI qk])), Nq (.sl 1 [[dI d], [dI db], [dI bb]]) (.sl 1 [[dI o], [dI dl], [dI b1], [dI bl]])] (Wq 9 0 0 K' L')) (o7 : Oq K') (o8 : Oq L') :
  Jq (.loop 67 2 (qs bx (sh67_2 (P0 bx) (P1 bx) (P2 bx) (I kr.length) (I j)) [Nb N F, Wx kd nd ar (.sl 5 kr) (.sl 3 lr), [I 0, I 0, I 0, .dat .nil, .dat .nil, I 0]])) = some (.loop .ret (qs bx (se67_2 (P1 bx) (P2 bx)) [Nb N F, Wx kd nd ar (.sl 5 kr) (.sl 3 lr), [I 9, I 0, I 0, .dat K', .dat L', I 3]])) := by
 have lq : b0 < lr.length := (gsi.1 hq).1
 have ld : d < kr.length := (gsi.1 hd).1
 have z2 : 0 < outs.length + 1 := by omega
 have z5 : (((0 + 1 + 1 : Nat) : Int) != 2) = false := rfl
 have z6 : (((2 : Nat) : Int) != 2) = false := rfl
 simp (maxSteps:=9000000) only [go_sem, seval, hN, hF, nat_lt hlt, nat_neg, tnc, nat_succ hlt hmax, hlt, hg, e1, hi, e2, ho, e3, hf, hgd, e4, hod, hwd, e6, e7, hcp, hd, ld, hp1, hp2, o3, o4, o5, o6, hq, lq, hw, o7, o8, z2, z5, z6, hj]
end
section
variable {bx : List Box} {kr lr ins outs : List (List D)} {N F R1 R2 R3 R4 R5 R6 K' L' y1 y2 y3 y4 y5 : D} {j o d b0 b1 : Nat} {kd nd ar g gd db dl at_ ab al bt bb bl k1 n1 a1 p1 p2 p3 q1 q2 q3 qf qt qk : Int}
theorem x3_fb (hN : Oq N) (hF : Oq F) (hlt : j < kr.length) (hmax : kr.length < 9223372036854775808) (hg : Cq 32 [Nq N F, Wq kd nd ar (.sl 5 kr) (.sl 3 lr), I j] (I g)) (e1 : (g != 5) = false) (hi : Cq 56 [Wq kd nd ar (.sl 5 kr) (.sl 3 lr), I j] (.own true 1 ins)) (e2 : ((ins.length : Int) != 2) = false) (ho : Cq 57 [Wq kd nd ar (.sl 5 kr) (.sl 3 lr), I j] (.own true 1 ([dI o] :: outs))) (e3 : (((outs.length + 1 : Nat) : Int) != 1) = false) (hf : Cq 106 [Nq N F, Wq kd nd ar (.sl 5 kr) (.sl 3 lr), I o] (Aq d db dl)) (hgd : Cq 32 [Nq N F, Wq kd nd ar (.sl 5 kr) (.sl 3 lr), I (d : Nat)] (I gd)) (e4 : (gd != 5) = false) (hod : Cq 57 [Wq kd nd ar (.sl 5 kr) (.sl 3 lr), I d] (.own true 1 [[dI b0], [dI b1]])) (hwd : Cq 104 [Nq N F, Wq kd nd ar (.sl 5 kr) (.sl 3 lr), I d] (.own true 3 [[dI at_, dI ab, dI al], [dI bt, dI bb, dI bl]])) (e6 : (at_ == (j : Int)) = true) (e7 : (bt == (j : Int)) = false) (hcp : Cq 99 [Wq kd nd ar (.sl 5 kr) (.sl 3 lr)] (.bag [I 9, I 0, I 0, .own true 5 kr, .own true 3 lr])) (hd : kr[d]? = some [dI k1, dI n1, dI a1, R1, R2]) (hp1 : Cq 105 [Wq kd nd ar (.sl 5 kr) (.sl 3 lr), Aq d db dl] (Wq p1 p2 p3 R3 R4)) (hp2 : Cq 105 [Wq kd nd ar (.sl 5 kr) (.sl 3 lr), Aq at_ ab al] (Wq q1 q2 q3 R5 R6)) (o3 : Oq R3) (o4 : Oq R4) (o5 : Oq R5) (o6 : Oq R6) (hj : kr[j]? = some [y1, y2, y3, y4, y5]) (hq : lr[b1]? = some [dI qf, dI qt, dI qk]) (hw : Cq 102 [Wq 9 0 0 (.sl 5 (kr.set j [dI 7, dI n1, dI 1, .sl 5 [[dI p1, dI p2, dI p3, R3, R4], [dI q1, dI q2, dI q3, R5, R6]], .nil])) (.sl 3 (lr.set b1 [dI j, dI qt, dI qk])), Nq (.sl 1 [[dI d], [dI db], [dI ab]]) (.sl 1 [[dI o], [dI dl], [dI b0], [dI al]])] (Wq 9 0 0 K' L')) (o7 : Oq K') (o8 : Oq L') :
  Jq (.loop 67 2 (qs bx (sh67_2 (P0 bx) (P1 bx) (P2 bx) (I kr.length) (I j)) [Nb N F, Wx kd nd ar (.sl 5 kr) (.sl 3 lr), [I 0, I 0, I 0, .dat .nil, .dat .nil, I 0]])) = some (.loop .ret (qs bx (se67_2 (P1 bx) (P2 bx)) [Nb N F, Wx kd nd ar (.sl 5 kr) (.sl 3 lr), [I 9, I 0, I 0, .dat K', .dat L', I 3]])) := by
 have lq : b1 < lr.length := (gsi.1 hq).1
 have ld : d < kr.length := (gsi.1 hd).1
 have z2 : 0 < outs.length + 1 := by omega
 have z5 : (((0 + 1 + 1 : Nat) : Int) != 2) = false := rfl
 have z6 : (((2 : Nat) : Int) != 2) = false := rfl
 simp (maxSteps:=9000000) only [go_sem, seval, hN, hF, nat_lt hlt, nat_neg, tnc, nat_succ hlt hmax, hlt, hg, e1, hi, e2, ho, e3, hf, hgd, e4, hod, hwd, e6, e7, hcp, hd, ld, hp1, hp2, o3, o4, o5, o6, hq, lq, hw, o7, o8, z2, z5, z6, hj]
end
section
variable {bx : List Box} {kr ins outs os : List (List D)} {N F K L K' L' : D} {j o : Nat} {kd nd ar g gd dt db dl at_ ab al bt bb bl c1 c2 c3 : Int}
theorem x3_s (hN : Oq N) (hF : Oq F) (hK : Oq K) (hL : Oq L) (hlt : j < kr.length) (hmax : kr.length < 9223372036854775808) (hg : Cq 32 [Nq N F, Wq kd nd ar K L, I j] (I g)) (e1 : (g != 5) = false) (hi : Cq 56 [Wq kd nd ar K L, I j] (.own true 1 ins)) (e2 : ((ins.length : Int) != 2) = false) (ho : Cq 57 [Wq kd nd ar K L, I j] (.own true 1 ([dI o] :: outs))) (e3 : (((outs.length + 1 : Nat) : Int) != 1) = false) (hf : Cq 106 [Nq N F, Wq kd nd ar K L, I o] (Aq dt db dl)) (hgd : Cq 32 [Nq N F, Wq kd nd ar K L, I dt] (I gd)) (e4 : (gd != 5) = false) (hod : Cq 57 [Wq kd nd ar K L, I dt] (.own true 1 os)) (e5 : ((os.length : Int) != 2) = false) (hwd : Cq 104 [Nq N F, Wq kd nd ar K L, I dt] (.own true 3 [[dI at_, dI ab, dI al], [dI bt, dI bb, dI bl]])) {v : Bool} (e6 : (at_ == (j : Int)) = v) (e7 : (bt == (j : Int)) = v) :
  Jq (.loop 67 2 (qs bx (sh67_2 (P0 bx) (P1 bx) (P2 bx) (I kr.length) (I j)) [Nb N F, Wx kd nd ar K L, [I 0, I 0, I 0, .dat .nil, .dat .nil, I 0]])) = ev cfg (.loop 67 2 (qs bx (sh67_2 (P0 bx) (P1 bx) (P2 bx) (I kr.length) (I ((j + 1 : Nat) : Int))) [Nb N F, Wx kd nd ar K L, [I 0, I 0, I 0, .dat .nil, .dat .nil, I 0]])) := by
 have z2 : 0 < outs.length + 1 := by omega
 cases v
 all_goals simp (maxSteps:=9000000) only [go_sem, seval, hN, hF, hK, hL, nat_lt hlt, nat_neg, tnc, nat_succ hlt hmax, hg, e1, hi, e2, ho, e3, hf, hgd, e4, z2, hod, e5, hwd, e6, e7]
theorem x3_end (hN : Oq N) (hF : Oq F) (hK : Oq K) (hL : Oq L) {m : Nat} (hge : m <= j) :
  Jq (.loop 67 2 (qs bx (sh67_2 (P0 bx) (P1 bx) (P2 bx) (I m) (I j)) [Nb N F, Wx kd nd ar K L, [I 0, I 0, I 0, .dat .nil, .dat .nil, I 0]])) = some (.loop (.exit 0) (qs bx (se67_2 (P1 bx) (P2 bx)) [Nb N F, Wx kd nd ar K L, [I 0, I 0, I 0, .dat .nil, .dat .nil, I 0]])) := by
 simp (maxSteps:=9000000) only [go_sem, seval, hN, hF, hK, hL, nat_ge hge]
theorem x3_none (hN : Oq N) (hF : Oq F) (hK : IsS 5 kr K) (hL : Oq L) (hl : ev cfg (.loop 67 2 (qs bx (sh67_2 (P0 bx) (P1 bx) (P2 bx) (I kr.length) (I 0)) [Nb N F, Wx kd nd ar K L, [I 0, I 0, I 0, .dat .nil, .dat .nil, I 0]])) = some (.loop (.exit 0) (qs bx (se67_2 (P1 bx) (P2 bx)) [Nb N F, Wx kd nd ar K L, [I 0, I 0, I 0, .dat .nil, .dat .nil, I 0]]))) :
  Jq (.call 67 [Nq N F, Wq kd nd ar K L] bx) = Rq (Wy kd nd ar K L 0) := by
 obtain ⟨w', e1, e2, e3⟩ := hK
 simp (maxSteps:=9000000) only [go_sem, seval, hN, hF, e1, e3, hL, hl]
theorem x3_some {c1 c2 c3 : Int} (hN : Oq N) (hF : Oq F) (hK : IsS 5 kr K) (hL : Oq L) (o1 : Oq K') (o2 : Oq L') (hl : ev cfg (.loop 67 2 (qs bx (sh67_2 (P0 bx) (P1 bx) (P2 bx) (I kr.length) (I 0)) [Nb N F, Wx kd nd ar K L, [I 0, I 0, I 0, .dat .nil, .dat .nil, I 0]])) = some (.loop .ret (qs bx (se67_2 (P1 bx) (P2 bx)) [Nb N F, Wx kd nd ar K L, [I c1, I c2, I c3, .dat K', .dat L', I 3]]))) :
  Jq (.call 67 [Nq N F, Wq kd nd ar K L] bx) = Rq (Wy c1 c2 c3 K' L' 3) := by
 obtain ⟨w', e1, e2, e3⟩ := hK
 simp (maxSteps:=9000000) only [go_sem, seval, hN, hF, e1, e3, hL, hl, o1, o2]
end
section
variable {bx : List Box} {os ws cs gs : List (List D)} {i l : Nat} {s to b_ la lv : Int}
theorem fround_i0 (hl : l < bx.length) {z0 z1 z2 z3 z4 : Box} (y0 : z0.all (cellLt (bx.length + 5)) = true) (y1 : z1.all (cellLt (bx.length + 5)) = true) (y2 : z2.all (cellLt (bx.length + 5)) = true) (y3 : z3.all (cellLt (bx.length + 5)) = true) (y4 : z4.all (cellLt (bx.length + 5)) = true) (hget : ws[i]? = some [dI to, dI b_, dI la]) (hlt : i < ws.length) (hmax : ws.length < 9223372036854775808) (hb2 : decide (b_ >= 0) = false) :
  Jq (.loop 64 18 (qs bx (sh64_18 (.ptr l 0) (I s) (.own true 1 os) (I lv) (P4 bx) (.own true 1 cs) (.own true 1 gs) (.own true 3 ws) (I ws.length) (I i)) [z0, z1, z2, z3, z4])) =
   ev cfg (.loop 64 18 (qs bx (sh64_18 (.ptr l 0) (I s) (.own true 1 os) (I lv) (P4 bx) (.own true 1 cs) (.own true 1 gs) (.own true 3 ws) (I ws.length) (I ((i + 1 : Nat) : Int))) [z0, z1, z2, z3, z4])) := by
 simp (maxSteps:=9000000) only [go_sem, seval, hl, nat_lt hlt, nat_neg, tnc, hget, hlt, hb2, y0, y1, y2, y3, y4, nat_succ hlt hmax]
theorem fround_i1 (hl : l < bx.length) {z0 z1 z2 z3 z4 : Box} (y0 : z0.all (cellLt (bx.length + 5)) = true) (y1 : z1.all (cellLt (bx.length + 5)) = true) (y2 : z2.all (cellLt (bx.length + 5)) = true) (y3 : z3.all (cellLt (bx.length + 5)) = true) (y4 : z4.all (cellLt (bx.length + 5)) = true) (hget : ws[i]? = some [dI to, dI b_, dI la]) (hlt : i < ws.length) (hmax : ws.length < 9223372036854775808) (hb2 : decide (b_ >= 0) = true) (hgs : (gs.length + 1) * 8 <= 140737488355328) :
  Jq (.loop 64 18 (qs bx (sh64_18 (.ptr l 0) (I s) (.own true 1 os) (I lv) (P4 bx) (.own true 1 cs) (.own true 1 gs) (.own true 3 ws) (I ws.length) (I i)) [z0, z1, z2, z3, z4])) =
   ev cfg (.loop 64 18 (qs bx (sh64_18 (.ptr l 0) (I s) (.own true 1 os) (I lv) (P4 bx) (.own true 1 cs) (.own true 1 (gs ++ [[dI b_]])) (.own true 3 ws) (I ws.length) (I ((i + 1 : Nat) : Int))) [z0, z1, z2, z3, z4])) := by
 simp (maxSteps:=9000000) only [go_sem, seval, hl, nat_lt hlt, nat_neg, tnc, hget, hlt, hb2, y0, y1, y2, y3, y4, nat_succ hlt hmax, hgs]
theorem fround_iend (hl : l < bx.length) {z0 z1 z2 z3 z4 : Box} (y0 : z0.all (cellLt (bx.length + 5)) = true) (y1 : z1.all (cellLt (bx.length + 5)) = true) (y2 : z2.all (cellLt (bx.length + 5)) = true) (y3 : z3.all (cellLt (bx.length + 5)) = true) (y4 : z4.all (cellLt (bx.length + 5)) = true) {m : Nat} (hge : m <= i) :
  Jq (.loop 64 18 (qs bx (sh64_18 (.ptr l 0) (I s) (.own true 1 os) (I lv) (P4 bx) (.own true 1 cs) (.own true 1 gs) (.own true 3 ws) (I m) (I i)) [z0, z1, z2, z3, z4])) = some (.loop (.exit 2) (qs bx (se64_18 (.ptr l 0) (I s) (.own true 1 os) (I lv) (P4 bx) (.own true 1 cs) (.own true 1 gs)) [z0, z1, z2, z3, z4])) := by
 simp (maxSteps:=9000000) only [go_sem, seval, hl, nat_ge hge, y0, y1, y2, y3, y4]
end
section
variable {bx : List Box} {rows lr os ir oj : List (List D)} {N F : D} {i l o1 : Nat} {dto dby dla : Int} {c : Bool}
theorem fround_p1 (hl : l < bx.length) (hb : bx[l]? = some [.dat N, .dat F, .own true 5 rows, .own true 3 lr]) (hlt : i < rows.length) (hmax : rows.length < 9223372036854775808) (h1 : ev cfg (.call 94 [.ptr l 0, I i, I 5, B false] bx) = Rq (B false)) :
  Jq (.loop 64 2 (q0 bx (sh64_2 (.ptr l 0) (I rows.length) (I i)))) = ev cfg (.loop 64 2 (q0 bx (sh64_2 (.ptr l 0) (I rows.length) (I ((i + 1 : Nat) : Int))))) := by
 simp (maxSteps:=9000000) only [go_sem, seval, hl, hb, nat_lt hlt, nat_neg, tnc, nat_succ hlt hmax, h1]
theorem fround_p2 (hl : l < bx.length) (hb : bx[l]? = some [.dat N, .dat F, .own true 5 rows, .own true 3 lr]) (hlt : i < rows.length) (hmax : rows.length < 9223372036854775808) (h1 : ev cfg (.call 94 [.ptr l 0, I i, I 5, B false] bx) = Rq (B true)) (h2 : ev cfg (.call 83 [.ptr l 0, I i] bx) = Rq (.own true 1 ir)) (n2 : ((ir.length : Int) != 2) = true) :
  Jq (.loop 64 2 (q0 bx (sh64_2 (.ptr l 0) (I rows.length) (I i)))) = ev cfg (.loop 64 2 (q0 bx (sh64_2 (.ptr l 0) (I rows.length) (I ((i + 1 : Nat) : Int))))) := by
 simp (maxSteps:=9000000) only [go_sem, seval, hl, hb, nat_lt hlt, nat_neg, tnc, nat_succ hlt hmax, h1, h2, n2]
theorem fround_p3 (hl : l < bx.length) (hb : bx[l]? = some [.dat N, .dat F, .own true 5 rows, .own true 3 lr]) (hlt : i < rows.length) (hmax : rows.length < 9223372036854775808) (h1 : ev cfg (.call 94 [.ptr l 0, I i, I 5, B false] bx) = Rq (B true)) (h2 : ev cfg (.call 83 [.ptr l 0, I i] bx) = Rq (.own true 1 ir)) (n2 : ((ir.length : Int) != 2) = false) (h3 : ev cfg (.call 84 [.ptr l 0, I i] bx) = Rq (.own true 1 ([dI o1] :: oj))) (h4 : ev cfg (.call 98 [.ptr l 0, I o1] bx) = Rq (Aq dto dby dla)) (h5 : ∀ r : Box, ev cfg (.call 94 [.ptr l 0, I dto, I 5, B true] (bx ++ [r])) = Rq (B false)) :
  Jq (.loop 64 2 (q0 bx (sh64_2 (.ptr l 0) (I rows.length) (I i)))) = ev cfg (.loop 64 2 (q0 bx (sh64_2 (.ptr l 0) (I rows.length) (I ((i + 1 : Nat) : Int))))) := by
 have hz : 0 < oj.length + 1 := by omega
 simp (maxSteps:=9000000) only [go_sem, seval, hl, hb, nat_lt hlt, nat_neg, tnc, nat_succ hlt hmax, h1, h2, n2, h3, h4, h5, hz]
theorem fround_p4 (hl : l < bx.length) (hb : bx[l]? = some [.dat N, .dat F, .own true 5 rows, .own true 3 lr]) (hlt : i < rows.length) (hmax : rows.length < 9223372036854775808) (h1 : ev cfg (.call 94 [.ptr l 0, I i, I 5, B false] bx) = Rq (B true)) (h2 : ev cfg (.call 83 [.ptr l 0, I i] bx) = Rq (.own true 1 ir)) (n2 : ((ir.length : Int) != 2) = false) (h3 : ev cfg (.call 84 [.ptr l 0, I i] bx) = Rq (.own true 1 ([dI o1] :: oj))) (h4 : ev cfg (.call 98 [.ptr l 0, I o1] bx) = Rq (Aq dto dby dla)) (h5 : ∀ r : Box, ev cfg (.call 94 [.ptr l 0, I dto, I 5, B true] (bx ++ [r])) = Rq (B true)) (h6 : ∀ r : Box, ev cfg (.call 84 [.ptr l 0, I dto] (bx ++ [r])) = Rq (.own true 1 os)) (n6 : ((os.length : Int) != 2) = true) :
  Jq (.loop 64 2 (q0 bx (sh64_2 (.ptr l 0) (I rows.length) (I i)))) = ev cfg (.loop 64 2 (q0 bx (sh64_2 (.ptr l 0) (I rows.length) (I ((i + 1 : Nat) : Int))))) := by
 have hz : 0 < oj.length + 1 := by omega
 simp (maxSteps:=9000000) only [go_sem, seval, hl, hb, nat_lt hlt, nat_neg, tnc, nat_succ hlt hmax, h1, h2, n2, h3, h4, h5, h6, n6, hz]
theorem fround_end {m : Nat} (hl : l < bx.length) (hge : m <= i) :
  Jq (.loop 64 2 (q0 bx (sh64_2 (.ptr l 0) (I m) (I i)))) = some (.loop (.exit 0) (q0 bx (se64_2 .dead))) := by
 simp (maxSteps:=9000000) only [go_sem, seval, hl, nat_ge hge]
theorem fround_f (hl : l < bx.length) (hb : bx[l]? = some [.dat N, .dat F, .own true 5 rows, .own true 3 lr])
  (hloop : ev cfg (.loop 64 2 (q0 bx (sh64_2 (.ptr l 0) (I rows.length) (I 0)))) = some (.loop (.exit 0) (q0 bx (se64_2 .dead)))) :
  Jq (.call 64 [.ptr l 0] bx) = Rq (B false) := by
 simp (maxSteps:=9000000) only [go_sem, seval, hl, hb, hloop]
theorem fround_t (hl : l < bx.length) (hb : bx[l]? = some [.dat N, .dat F, .own true 5 rows, .own true 3 lr]) {c : Box}
  (hloop : ev cfg (.loop 64 2 (q0 bx (sh64_2 (.ptr l 0) (I rows.length) (I 0)))) = some (.loop .ret ⟨(se64_2 (B true)), bx.set l c, bx.length, some l, false⟩)) :
  Jq (.call 64 [.ptr l 0] bx) = some (.ret (B true) (some ⟨bx.set l c, l, false⟩)) := by
 simp (maxSteps:=9000000) only [go_sem, seval, hl, hb, hloop]
end
section
variable {bx : List Box} {rows lr ir oj : List (List D)} {N F : D} {i l o1 oa ob : Nat} {dto dby dla ato aby ala bto bby bla : Int}
theorem fround_p5 (hl : l < bx.length) (hb : bx[l]? = some [.dat N, .dat F, .own true 5 rows, .own true 3 lr]) (hlt : i < rows.length) (hmax : rows.length < 9223372036854775808) (h1 : ev cfg (.call 94 [.ptr l 0, I i, I 5, B false] bx) = Rq (B true)) (h2 : ev cfg (.call 83 [.ptr l 0, I i] bx) = Rq (.own true 1 ir)) (n2 : ((ir.length : Int) != 2) = false) (h3 : ev cfg (.call 84 [.ptr l 0, I i] bx) = Rq (.own true 1 ([dI o1] :: oj))) (h4 : ev cfg (.call 98 [.ptr l 0, I o1] bx) = Rq (Aq dto dby dla)) (h5 : ∀ r : Box, ev cfg (.call 94 [.ptr l 0, I dto, I 5, B true] (bx ++ [r])) = Rq (B true)) (h6 : ∀ r : Box, ev cfg (.call 84 [.ptr l 0, I dto] (bx ++ [r])) = Rq (.own true 1 [[dI oa], [dI ob]])) (h7 : ∀ r : Box, ev cfg (.call 98 [.ptr l 0, I oa] (bx ++ [r])) = Rq (Aq ato aby ala)) (h8 : ∀ r : Box, ev cfg (.call 98 [.ptr l 0, I ob] (bx ++ [r])) = Rq (Aq bto bby bla)) (n9 : ((ato == (i : Int)) == (bto == (i : Int))) = true) :
  Jq (.loop 64 2 (q0 bx (sh64_2 (.ptr l 0) (I rows.length) (I i)))) = ev cfg (.loop 64 2 (q0 bx (sh64_2 (.ptr l 0) (I rows.length) (I ((i + 1 : Nat) : Int))))) := by
 have hz : 0 < oj.length + 1 := by omega
 have e2 : ((((0 + 1 + 1 : Nat)) : Int) != 2) = false := rfl
 have e3 : ((2 : Int) != 2) = false := rfl
 simp (maxSteps:=9000000) only [go_sem, seval, hl, hb, nat_lt hlt, nat_neg, tnc, nat_succ hlt hmax, h1, h2, n2, h3, h4, h5, h6, h7, h8, n9, hz, e2, e3]
end
section
variable {bx : List Box} {rows lr gs ir ks2 ls2 oj : List (List D)} {N F K L K2 L2 QK QL RK RL : D} {i l o1 sj oa ob : Nat} {k n a f t w qk qn qa rk rn ra dby dla ato aby ala bto bby bla f2 t2 w2 : Int}
theorem fround_go0 (hl : l < bx.length) (hb : bx[l]? = some [.dat N, .dat F, .own true 5 rows, .own true 3 lr]) (hlt : i < rows.length) (hmax : rows.length < 9223372036854775808) (h1 : ev cfg (.call 94 [.ptr l 0, I i, I 5, B false] bx) = Rq (B true)) (h2 : ev cfg (.call 83 [.ptr l 0, I i] bx) = Rq (.own true 1 ir)) (n2 : ((ir.length : Int) != 2) = false) (h3 : ev cfg (.call 84 [.ptr l 0, I i] bx) = Rq (.own true 1 ([dI o1] :: oj))) (h4 : ev cfg (.call 98 [.ptr l 0, I o1] bx) = Rq (Aq (sj : Nat) dby dla)) (h5 : ∀ r : Box, ev cfg (.call 94 [.ptr l 0, I (sj : Nat), I 5, B true] (bx ++ [r])) = Rq (B true)) (h6 : ∀ r : Box, ev cfg (.call 84 [.ptr l 0, I (sj : Nat)] (bx ++ [r])) = Rq (.own true 1 [[dI oa], [dI ob]])) (h7 : ∀ r : Box, ev cfg (.call 98 [.ptr l 0, I oa] (bx ++ [r])) = Rq (Aq ato aby ala)) (h8 : ∀ r : Box, ev cfg (.call 98 [.ptr l 0, I ob] (bx ++ [r])) = Rq (Aq bto bby bla)) (n9 : (ato == (i : Int)) = false) (n10 : (bto == (i : Int)) = true) (hri : rows[i]? = some [dI f, dI t, dI w, K2, L2]) (hra : rows[sj]? = some [dI k, dI n, dI a, K, L]) (hQK : Oq QK) (hQL : Oq QL) (hRK : Oq RK) (hRL : Oq RL)
  (hp1 : ∀ r1 r2 r3 r4 : Box, ev cfg (.call 97 [.ptr l 0, Aq (sj : Nat) dby dla] (bx ++ [r1, r2, r3, r4])) = Rq (Wq qk qn qa QK QL))
  (hp2 : ∀ r1 r2 r3 r4 : Box, ev cfg (.call 97 [.ptr l 0, Aq bto bby bla] (bx ++ [r1, r2, r3, r4])) = Rq (Wq rk rn ra RK RL))
  (hoj : ∀ r0 r1 r2 r3 r4 : Box, ev cfg (.call 84 [.ptr l 0, I i] (bx ++ [r0, r1, r2, r3, r4])) = Rq (.own true 1 ([dI o1] :: oj)))
  (hin : ∀ z0 z1 z2 z3 z4 : Box, z0.all (cellLt (bx.length + 5)) = true -> z1.all (cellLt (bx.length + 5)) = true -> z2.all (cellLt (bx.length + 5)) = true -> z3.all (cellLt (bx.length + 5)) = true -> z4.all (cellLt (bx.length + 5)) = true →
   ev cfg (.loop 64 18 (qs bx (sh64_18 (.ptr l 0) (I i) (.own true 1 [[dI oa], [dI ob]]) (I 0) (P4 bx) (.own true 1 [[dI o1], [dI dla], [dI ob], [dI bla]]) (.own true 1 [[dI (sj : Nat)]]) (.own true 3 [[dI (sj : Nat), dI dby, dI dla], [dI bto, dI bby, dI bla]]) (I 2) (I 0)) [z0, z1, z2, z3, z4])) = some (.loop (.exit 2) (qs bx (se64_18 (.ptr l 0) (I i) (.own true 1 [[dI oa], [dI ob]]) (I 0) (P4 bx) (.own true 1 [[dI o1], [dI dla], [dI ob], [dI bla]]) (.own true 1 gs)) [z0, z1, z2, z3, z4])))
  (hget2 : lr[oa]? = some [dI f2, dI t2, dI w2])
  (hdr : ∀ r0 r1 r2 r3 r4 : Box, ev cfg (.call 93 [.ptr l 0, .dat (.sl 1 gs), .dat (.sl 1 [[dI o1], [dI dla], [dI ob], [dI bla]])] (bx.set l [.dat N, .dat F, .own true 5 (rows.set i [dI 7, dI n, dI 0, .sl 5 [[dI qk, dI qn, dI qa, QK, QL], [dI rk, dI rn, dI ra, RK, RL]], .nil]), .own true 3 (lr.set oa [dI (i : Nat), dI t2, dI w2])] ++ [r0, r1, r2, r3, r4])) = some (.ret (.tup []) (some ⟨bx.set l [.dat N, .dat F, mkS 5 ks2, mkS 3 ls2] ++ [r0, r1, r2, r3, r4], l, false⟩))) :
  Jq (.loop 64 2 (q0 bx (sh64_2 (.ptr l 0) (I rows.length) (I i)))) = some (.loop .ret ⟨(se64_2 (B true)), bx.set l [.dat N, .dat F, mkS 5 ks2, mkS 3 ls2], bx.length, some l, false⟩) := by
 have hz : 0 < oj.length + 1 := by omega
 have e2 : ((((0 + 1 + 1 : Nat)) : Int) != 2) = false := rfl
 have e3 : ((2 : Int) != 2) = false := rfl
 have hlo2 : oa < lr.length := (gsi.1 hget2).1
 have hls : sj < rows.length := (gsi.1 hra).1
 have hin' := hin [I (sj : Nat), I dby, I dla] [I ato, I aby, I ala] [I bto, I bby, I bla] [I bto, I bby, I bla] (Wx 7 n 0 (.sl 5 [[dI qk, dI qn, dI qa, QK, QL], [dI rk, dI rn, dI ra, RK, RL]]) .nil) rfl rfl rfl rfl rfl
 simp (maxSteps:=9000000) only [go_sem, seval, hl, hb, nat_lt hlt, nat_neg, tnc, nat_succ hlt hmax, h1, h2, n2, h3, h4, h5, h6, h7, h8, n9, n10, hz, e2, e3, hri, hra, hls, hQK, hQL, hRK, hRL, hp1, hp2, hoj, hin', hget2, hlo2, hlt, hdr, isCellIn, gss hl, lls]
end
end Go.Proofs.YtifckjhggamefaaGreatDoor
