/- Rounds of the reference of layer 11: Begin, its flows; the whole. No condition. -/
import Derived.Test.YtifckjhggamefaaGreatDoorAt
import Derived.Test.YtifckjhggamefaaGreatDoorPb
set_option linter.unusedSimpArgs false
set_option linter.unusedVariables false
set_option linter.unusedSectionVars false
namespace Go.Proofs.YtifckjhggamefaaGreatDoor
open Go Go.Vx
set_option maxHeartbeats 8000000
set_option maxRecDepth 10000
section
variable {bx : List Box} {nr fr pr ks ls : List (List D)} {N F KT : D} {i p q : Nat} {op m fv tv : Int} {els : Bool}
theorem xb_l0 (hN : Oq N) (hF : IsS 6 fr F) (hget : fr[i]? = some [dI p, dI q, .lit (.bool els), dI op, dI m, KT]) (hKT : Oq KT) (hlt : i < fr.length) (hmax : fr.length < 9223372036854775808) (hp : pr[p]? = some [dI fv]) (hq : pr[q]? = some [dI tv]) :
  Jq (.loop 14 15 (qs bx (sh14_15 (P1 bx) (P2 bx) (.own true 1 pr) (.dat F) (I fr.length) (I i)) [Nb N F, E6, [I 9, I 0, I 0, mkS 5 ks, .dat .nil]])) = ev cfg (.loop 14 15 (qs bx (sh14_15 (P1 bx) (P2 bx) (.own true 1 pr) (.dat F) (I fr.length) (I ((i + 1 : Nat) : Int))) [Nb N F, E6, [I 9, I 0, I 0, mkS 5 ks, .own true 3 [[dI fv, dI tv, dI i]]]])) := by
 have lp : p < pr.length := (gsi.1 hp).1
 have lq : q < pr.length := (gsi.1 hq).1
 obtain ⟨w1, g1, g2, g3⟩ := hF
 obtain rfl := isS_w g2 hget
 cases ks <;> simp (maxSteps:=9000000) only [go_sem, seval, mkS, g1, g3, hN, hKT, nat_lt hlt, nat_neg, tnc, hget, hlt, hp, lp, hq, lq, nat_succ hlt hmax]
theorem xb_l1 (hN : Oq N) (hF : IsS 6 fr F) (hget : fr[i]? = some [dI p, dI q, .lit (.bool els), dI op, dI m, KT]) (hKT : Oq KT) (hlt : i < fr.length) (hmax : fr.length < 9223372036854775808) (hp : pr[p]? = some [dI fv]) (hq : pr[q]? = some [dI tv]) (hks : (ls.length + 1) * 24 <= 140737488355328) :
  Jq (.loop 14 15 (qs bx (sh14_15 (P1 bx) (P2 bx) (.own true 1 pr) (.dat F) (I fr.length) (I i)) [Nb N F, E6, [I 9, I 0, I 0, mkS 5 ks, .own true 3 ls]])) = ev cfg (.loop 14 15 (qs bx (sh14_15 (P1 bx) (P2 bx) (.own true 1 pr) (.dat F) (I fr.length) (I ((i + 1 : Nat) : Int))) [Nb N F, E6, [I 9, I 0, I 0, mkS 5 ks, .own true 3 (ls ++ [[dI fv, dI tv, dI i]])]])) := by
 have lp : p < pr.length := (gsi.1 hp).1
 have lq : q < pr.length := (gsi.1 hq).1
 obtain ⟨w1, g1, g2, g3⟩ := hF
 obtain rfl := isS_w g2 hget
 cases ks <;> simp (maxSteps:=9000000) only [go_sem, seval, mkS, g1, g3, hN, hKT, nat_lt hlt, nat_neg, tnc, hget, hlt, hp, lp, hq, lq, nat_succ hlt hmax, hks]
theorem xb_lend (hN : Oq N) (hF : Oq F) {m : Nat} (hge : m <= i) :
  Jq (.loop 14 15 (qs bx (sh14_15 (P1 bx) (P2 bx) (.own true 1 pr) (.dat F) (I m) (I i)) [Nb N F, E6, [I 9, I 0, I 0, mkS 5 ks, mkS 3 ls]])) = some (.loop (.exit 2) (qs bx (se14_15 (P1 bx) (P2 bx)) [Nb N F, E6, [I 9, I 0, I 0, mkS 5 ks, mkS 3 ls]])) := by
 cases ks <;> cases ls <;> simp (maxSteps:=9000000) only [go_sem, seval, mkS, hN, hF, nat_ge hge]
theorem xb_f (hN : IsS 5 nr N) (hF : IsS 6 fr F) (hbig : nr.length * 8 <= 140737488355328)
  (l1 : ev cfg (.loop 14 4 (qs bx (sh14_4 (P0 bx) (P1 bx) (P2 bx) (.own true 1 (List.replicate nr.length [dI 0])) (.dat N) (I nr.length) (I 0)) [Nb N F, E6, Wx 9 0 0 .nil .nil])) = some (.loop (.exit 0) (qs bx (se14_4 (P0 bx) (P1 bx) (P2 bx) (.own true 1 pr)) [Nb N F, E6, [I 9, I 0, I 0, mkS 5 ks, .dat .nil]]))) (l2 : ev cfg (.loop 14 15 (qs bx (sh14_15 (P1 bx) (P2 bx) (.own true 1 pr) (.dat F) (I fr.length) (I 0)) [Nb N F, E6, [I 9, I 0, I 0, mkS 5 ks, .dat .nil]])) = some (.loop (.exit 2) (qs bx (se14_15 (P1 bx) (P2 bx)) [Nb N F, E6, [I 9, I 0, I 0, mkS 5 ks, mkS 3 ls]]))) :
  Jq (.call 14 [Nq N F] bx) = Rq (Wq 9 0 0 (mkD 5 ks) (mkD 3 ls)) := by
 obtain ⟨w1, g1, g2, g3⟩ := hN
 obtain ⟨w2, f1, f2, f3⟩ := hF
 have hz : (0 : Int) <= (nr.length : Int) := by omega
 cases ks <;> cases ls <;> simp only [mkS] at l1 l2 <;> simp (maxSteps:=9000000) only [go_sem, seval, mkD, g1, g3, f1, f3, l1, l2, nat_neg, tnc, hbig, hz]
end
section
variable {bx : List Box} {kr lr os : List (List D)} {N F K L K' L' : D} {m a o : Nat} {kd nd ar k f t ga gb : Int}
theorem x1_gate (hN : Oq N) (hF : Oq F) (hK : Oq K) (hL : Oq L) (hlt : a < kr.length) (hmax : kr.length < 9223372036854775808) (hga : Cq 32 [Nq N F, Wq kd nd ar K L, I a] (I ga)) (h : (ga != 0) = true) :
  Jq (.loop 65 2 (qs bx (sh65_2 (P0 bx) (P1 bx) (P2 bx) (I kr.length) (I a)) [Nb N F, Wx kd nd ar K L, [I 0, I 0, I 0, .dat .nil, .dat .nil, I 0]])) = ev cfg (.loop 65 2 (qs bx (sh65_2 (P0 bx) (P1 bx) (P2 bx) (I kr.length) (I ((a + 1 : Nat) : Int))) [Nb N F, Wx kd nd ar K L, [I 0, I 0, I 0, .dat .nil, .dat .nil, I 0]])) := by
 simp (maxSteps:=9000000) only [go_sem, seval, hN, hF, nat_lt hlt, nat_neg, tnc, nat_succ hlt hmax, hga, hK, hL, h]
theorem x1_neg (hN : Oq N) (hF : Oq F) (hK : Oq K) (hL : IsS 3 lr L) (ho : lr[o]? = some [dI f, dI t, dI k]) (hlt : a < kr.length) (hmax : kr.length < 9223372036854775808) (hga : Cq 32 [Nq N F, Wq kd nd ar K L, I a] (I ga)) (h : (ga != 0) = false) (hoa : Cq 57 [Wq kd nd ar K L, I a] (.own true 1 ([dI o] :: os))) (h1 : decide (t < 0) = true) :
  Jq (.loop 65 2 (qs bx (sh65_2 (P0 bx) (P1 bx) (P2 bx) (I kr.length) (I a)) [Nb N F, Wx kd nd ar K L, [I 0, I 0, I 0, .dat .nil, .dat .nil, I 0]])) = ev cfg (.loop 65 2 (qs bx (sh65_2 (P0 bx) (P1 bx) (P2 bx) (I kr.length) (I ((a + 1 : Nat) : Int))) [Nb N F, Wx kd nd ar K L, [I 0, I 0, I 0, .dat .nil, .dat .nil, I 0]])) := by
 obtain ⟨w', g1, g2, g3⟩ := hL
 obtain rfl := isS_w g2 ho
 have lo : o < lr.length := (gsi.1 ho).1
 have z2 : 0 < os.length + 1 := by omega
 simp (maxSteps:=9000000) only [go_sem, seval, hN, hF, nat_lt hlt, nat_neg, tnc, nat_succ hlt hmax, hga, hK, g1, g3, h, hoa, ho, lo, z2, h1]
theorem x1_self (hN : Oq N) (hF : Oq F) (hK : Oq K) (hL : IsS 3 lr L) (ho : lr[o]? = some [dI f, dI t, dI k]) (hlt : a < kr.length) (hmax : kr.length < 9223372036854775808) (hga : Cq 32 [Nq N F, Wq kd nd ar K L, I a] (I ga)) (h : (ga != 0) = false) (hoa : Cq 57 [Wq kd nd ar K L, I a] (.own true 1 ([dI o] :: os))) (h1 : decide (t < 0) = false) (h2 : (t == (a : Int)) = true) :
  Jq (.loop 65 2 (qs bx (sh65_2 (P0 bx) (P1 bx) (P2 bx) (I kr.length) (I a)) [Nb N F, Wx kd nd ar K L, [I 0, I 0, I 0, .dat .nil, .dat .nil, I 0]])) = ev cfg (.loop 65 2 (qs bx (sh65_2 (P0 bx) (P1 bx) (P2 bx) (I kr.length) (I ((a + 1 : Nat) : Int))) [Nb N F, Wx kd nd ar K L, [I 0, I 0, I 0, .dat .nil, .dat .nil, I 0]])) := by
 obtain ⟨w', g1, g2, g3⟩ := hL
 obtain rfl := isS_w g2 ho
 have lo : o < lr.length := (gsi.1 ho).1
 have z2 : 0 < os.length + 1 := by omega
 simp (maxSteps:=9000000) only [go_sem, seval, hN, hF, nat_lt hlt, nat_neg, tnc, nat_succ hlt hmax, hga, hK, g1, g3, h, hoa, ho, lo, z2, h1, h2]
theorem x1_to (hN : Oq N) (hF : Oq F) (hK : Oq K) (hL : IsS 3 lr L) (ho : lr[o]? = some [dI f, dI t, dI k]) (hlt : a < kr.length) (hmax : kr.length < 9223372036854775808) (hga : Cq 32 [Nq N F, Wq kd nd ar K L, I a] (I ga)) (h : (ga != 0) = false) (hoa : Cq 57 [Wq kd nd ar K L, I a] (.own true 1 ([dI o] :: os))) (h1 : decide (t < 0) = false) (h2 : (t == (a : Int)) = false) (hgb : Cq 32 [Nq N F, Wq kd nd ar K L, I t] (I gb)) (h3 : (gb != 0) = true) :
  Jq (.loop 65 2 (qs bx (sh65_2 (P0 bx) (P1 bx) (P2 bx) (I kr.length) (I a)) [Nb N F, Wx kd nd ar K L, [I 0, I 0, I 0, .dat .nil, .dat .nil, I 0]])) = ev cfg (.loop 65 2 (qs bx (sh65_2 (P0 bx) (P1 bx) (P2 bx) (I kr.length) (I ((a + 1 : Nat) : Int))) [Nb N F, Wx kd nd ar K L, [I 0, I 0, I 0, .dat .nil, .dat .nil, I 0]])) := by
 obtain ⟨w', g1, g2, g3⟩ := hL
 obtain rfl := isS_w g2 ho
 have lo : o < lr.length := (gsi.1 ho).1
 have z2 : 0 < os.length + 1 := by omega
 simp (maxSteps:=9000000) only [go_sem, seval, hN, hF, nat_lt hlt, nat_neg, tnc, nat_succ hlt hmax, hga, hK, g1, g3, h, hoa, ho, lo, z2, h1, h2, hgb, h3]
theorem x1_end (hN : Oq N) (hF : Oq F) (hK : Oq K) (hL : Oq L) {m : Nat} (hge : m <= a) :
  Jq (.loop 65 2 (qs bx (sh65_2 (P0 bx) (P1 bx) (P2 bx) (I m) (I a)) [Nb N F, Wx kd nd ar K L, [I 0, I 0, I 0, .dat .nil, .dat .nil, I 0]])) = some (.loop (.exit 0) (qs bx (se65_2 (P1 bx) (P2 bx)) [Nb N F, Wx kd nd ar K L, [I 0, I 0, I 0, .dat .nil, .dat .nil, I 0]])) := by
 simp (maxSteps:=9000000) only [go_sem, seval, hN, hF, hK, hL, nat_ge hge]
theorem x1_none (hN : Oq N) (hF : Oq F) (hK : IsS 5 kr K) (hL : Oq L) (hl : ev cfg (.loop 65 2 (qs bx (sh65_2 (P0 bx) (P1 bx) (P2 bx) (I kr.length) (I 0)) [Nb N F, Wx kd nd ar K L, [I 0, I 0, I 0, .dat .nil, .dat .nil, I 0]])) = some (.loop (.exit 0) (qs bx (se65_2 (P1 bx) (P2 bx)) [Nb N F, Wx kd nd ar K L, [I 0, I 0, I 0, .dat .nil, .dat .nil, I 0]]))) :
  Jq (.call 65 [Nq N F, Wq kd nd ar K L] bx) = Rq (Wy kd nd ar K L 0) := by
 obtain ⟨w', e1, e2, e3⟩ := hK
 simp (maxSteps:=9000000) only [go_sem, seval, hN, hF, e1, e3, hL, hl]
theorem x1_some {c1 c2 c3 : Int} (hN : Oq N) (hF : Oq F) (hK : IsS 5 kr K) (hL : Oq L) (o1 : Oq K') (o2 : Oq L') (hl : ev cfg (.loop 65 2 (qs bx (sh65_2 (P0 bx) (P1 bx) (P2 bx) (I kr.length) (I 0)) [Nb N F, Wx kd nd ar K L, [I 0, I 0, I 0, .dat .nil, .dat .nil, I 0]])) = some (.loop .ret (qs bx (se65_2 (P1 bx) (P2 bx)) [Nb N F, Wx kd nd ar K L, [I c1, I c2, I c3, .dat K', .dat L', I 1]]))) :
  Jq (.call 65 [Nq N F, Wq kd nd ar K L] bx) = Rq (Wy c1 c2 c3 K' L' 1) := by
 obtain ⟨w', e1, e2, e3⟩ := hK
 simp (maxSteps:=9000000) only [go_sem, seval, hN, hF, e1, e3, hL, hl, o1, o2]
end
section
variable {bx : List Box} {kr lr os rs1 rs2 os2 : List (List D)} {r1 r2 : List D} {N F R1 R2 R3 R4 RK RL K' L' : D} {q a b o : Nat} {kd nd ar k f ga gb k1 n1 a1 k2 n2 a2 rk rn ra qf qt qk : Int}
theorem x1_fdd (hN : Oq N) (hF : Oq F) (hlt : a < kr.length) (hmax : kr.length < 9223372036854775808) (hga : Cq 32 [Nq N F, Wq kd nd ar (.sl 5 kr) (.sl 3 lr), I a] (I ga)) (h : (ga != 0) = false) (hoa : Cq 57 [Wq kd nd ar (.sl 5 kr) (.sl 3 lr), I a] (.own true 1 ([dI o] :: os))) (ho : lr[o]? = some [dI f, dI b, dI k])
  (h2 : ((b : Int) == (a : Int)) = false) (hgb : Cq 32 [Nq N F, Wq kd nd ar (.sl 5 kr) (.sl 3 lr), I b] (I gb)) (h3 : (gb != 0) = false)
  (hcp : Cq 99 [Wq kd nd ar (.sl 5 kr) (.sl 3 lr)] (.bag [I 9, I 0, I 0, .own true 5 kr, .own true 3 lr]))
  (ha : kr[a]? = some [dI k1, dI n1, dI a1, R1, R2]) (hb : kr[b]? = some [dI k2, dI n2, dI a2, R3, R4]) (o1 : Oq R1) (o2 : Oq R2) (o3 : Oq R3) (o4 : Oq R4)
  (hp1 : Cq 100 [Wq k1 n1 a1 R1 R2] (.dat (.sl 5 (r1 :: rs1))))
  (hp2 : Cq 100 [Wq k2 n2 a2 R3 R4] (.dat (.sl 5 (r2 :: rs2))))
  (hs1 : (rs1.length + 1) * 72 <= 140737488355328) (hs2 : (rs1.length + (1 + (rs2.length + 1))) * 72 <= 140737488355328)
  (hr : Cq 101 [.dat (.sl 5 (r1 :: (rs1 ++ (r2 :: rs2))))] (Wq rk rn ra RK RL)) (o5 : Oq RK) (o6 : Oq RL)
  (hob : Cq 57 [Wq kd nd ar (.sl 5 kr) (.sl 3 lr), I b] (.own true 1 ([dI q] :: os2))) (hq : lr[q]? = some [dI qf, dI qt, dI qk])
  (hw : Cq 102 [Wq 9 0 0 (.sl 5 (kr.set a [dI rk, dI rn, dI ra, RK, RL])) (.sl 3 (lr.set q [dI a, dI qt, dI qk])), Nq (.sl 1 [[dI b]]) (.sl 1 [[dI o]])] (Wq 9 0 0 K' L')) (o7 : Oq K') (o8 : Oq L') :
  Jq (.loop 65 2 (qs bx (sh65_2 (P0 bx) (P1 bx) (P2 bx) (I kr.length) (I a)) [Nb N F, Wx kd nd ar (.sl 5 kr) (.sl 3 lr), [I 0, I 0, I 0, .dat .nil, .dat .nil, I 0]])) = some (.loop .ret (qs bx (se65_2 (P1 bx) (P2 bx)) [Nb N F, Wx kd nd ar (.sl 5 kr) (.sl 3 lr), [I 9, I 0, I 0, .dat K', .dat L', I 1]])) := by
 have lo : o < lr.length := (gsi.1 ho).1
 have lq : q < lr.length := (gsi.1 hq).1
 have lb : b < kr.length := (gsi.1 hb).1
 have z2 : 0 < os.length + 1 := by omega
 have z3 : 0 < os2.length + 1 := by omega
 have h1 : decide ((b : Int) < 0) = false := dqf (by omega)
 simp (maxSteps:=9000000) only [go_sem, seval, hN, hF, nat_lt hlt, nat_neg, tnc, nat_succ hlt hmax, hga, hoa, ho, lo, z2, z3, h, h1, h2, hgb, h3, hcp, ha, hb, o1, o2, o3, o4, o5, o6, o7, o8, hlt, lb, lq, hp1, hp2, hs1, hs2, hr, hob, hq, hw]
end
section
variable {bx : List Box} {c z : Box} {kr pr ks : List (List D)} {K K2 L2 X C : D} {Y : PV} {i : Nat} {k n a w y : Int} {v : Bool}
theorem xw_k0 (hK : IsS 5 kr K) (hC : Oq C) (hX : Oq X) (hc : c.all (cellLt (bx.length + 4)) = true) (hz : z.all (cellLt (bx.length + 4)) = true) (hget : kr[i]? = some [dI k, dI n, dI a, K2, L2]) (hK2 : Oq K2) (hL2 : Oq L2) (hp : pr[i]? = some [dI y]) (hmax : kr.length < 9223372036854775808) (hh : Cq 132 [.dat C, I i] (B v)) :
  Jq (.loop 102 4 (qs bx (sh102_4 (P0 bx) (P1 bx) (P2 bx) (P3 bx) (.own true 1 pr) (.dat K) (I kr.length) (I i)) [c, Nb C X, z, Wx 9 0 0 .nil .nil])) = ev cfg (.loop 102 4 (qs bx (sh102_4 (P0 bx) (P1 bx) (P2 bx) (P3 bx) (.own true 1 (pr.set i [dI (0 : Nat)])) (.dat K) (I kr.length) (I ((i + 1 : Nat) : Int))) [c, Nb C X, z, [I 9, I 0, I 0, (if v = true then .dat .nil else .own true 5 [[dI k, dI n, dI a, K2, L2]]), .dat .nil]])) := by
 obtain ⟨w, h1, h2, h3⟩ := hK
 obtain rfl := isS_w h2 hget
 have hlt : i < kr.length := (gsi.1 hget).1
 have hlp : i < pr.length := (gsi.1 hp).1
 cases v <;> simp (maxSteps:=9000000) only [go_sem, seval, h1, h3, hC, hX, hc, hz, hK2, hL2, nat_lt hlt, nat_neg, tnc, hget, hlt, hp, hlp, hh, nat_succ hlt hmax]
theorem xw_k1 (hK : IsS 5 kr K) (hC : Oq C) (hX : Oq X) (hc : c.all (cellLt (bx.length + 4)) = true) (hz : z.all (cellLt (bx.length + 4)) = true) (hget : kr[i]? = some [dI k, dI n, dI a, K2, L2]) (hK2 : Oq K2) (hL2 : Oq L2) (hp : pr[i]? = some [dI y]) (hmax : kr.length < 9223372036854775808) (hks : (ks.length + 1) * 72 <= 140737488355328) (hh : Cq 132 [.dat C, I i] (B v)) :
  Jq (.loop 102 4 (qs bx (sh102_4 (P0 bx) (P1 bx) (P2 bx) (P3 bx) (.own true 1 pr) (.dat K) (I kr.length) (I i)) [c, Nb C X, z, [I 9, I 0, I 0, .own true 5 ks, .dat .nil]])) = ev cfg (.loop 102 4 (qs bx (sh102_4 (P0 bx) (P1 bx) (P2 bx) (P3 bx) (.own true 1 (pr.set i [dI (ks.length : Nat)])) (.dat K) (I kr.length) (I ((i + 1 : Nat) : Int))) [c, Nb C X, z, [I 9, I 0, I 0, .own true 5 (if v = true then ks else ks ++ [[dI k, dI n, dI a, K2, L2]]), .dat .nil]])) := by
 obtain ⟨w, h1, h2, h3⟩ := hK
 obtain rfl := isS_w h2 hget
 have hlt : i < kr.length := (gsi.1 hget).1
 have hlp : i < pr.length := (gsi.1 hp).1
 cases v <;> simp (maxSteps:=9000000) only [go_sem, seval, h1, h3, hC, hX, hc, hz, hK2, hL2, nat_lt hlt, nat_neg, tnc, hget, hlt, hp, hlp, hh, nat_succ hlt hmax, hks]
theorem xw_kend {m : Nat} (hK : Oq K) (hC : Oq C) (hX : Oq X) (hc : c.all (cellLt (bx.length + 4)) = true) (hz : z.all (cellLt (bx.length + 4)) = true) (hy : cellLt (bx.length + 4) Y = true) (hge : m <= i) :
  Jq (.loop 102 4 (qs bx (sh102_4 (P0 bx) (P1 bx) (P2 bx) (P3 bx) (.own true 1 pr) (.dat K) (I m) (I i)) [c, Nb C X, z, [I 9, I 0, I 0, Y, .dat .nil]])) = some (.loop (.exit 0) (qs bx (se102_4 (P0 bx) (P1 bx) (P2 bx) (P3 bx) (.own true 1 pr)) [c, Nb C X, z, [I 9, I 0, I 0, Y, .dat .nil]])) := by
 simp (maxSteps:=9000000) only [go_sem, seval, hK, hC, hX, hc, hz, hy, nat_ge hge]
end
section
variable {bx : List Box} {c z : Box} {lr pr : List (List D)} {L X C : D} {Y : PV} {i fj tj : Nat} {f t w yf yt : Int}
theorem xw_keep0nn (hL : IsS 3 lr L) (hC : Oq C) (hX : Oq X) (hc : c.all (cellLt (bx.length + 4)) = true) (hz : z.all (cellLt (bx.length + 4)) = true) (hy : cellLt (bx.length + 4) Y = true) (hlt : i < lr.length) (hmax : lr.length < 9223372036854775808) (hget : lr[i]? = some [dI f, dI t, dI w]) (hf : decide (f >= 0) = false) (ht : decide (t >= 0) = false) (hh : Cq 132 [.dat X, I i] (B false)) :
  Jq (.loop 102 11 (qs bx (sh102_11 (P1 bx) (P2 bx) (P3 bx) (.own true 1 pr) (.dat L) (I lr.length) (I i)) [c, Nb C X, z, [I 9, I 0, I 0, Y, .dat .nil]])) = ev cfg (.loop 102 11 (qs bx (sh102_11 (P1 bx) (P2 bx) (P3 bx) (.own true 1 pr) (.dat L) (I lr.length) (I ((i + 1 : Nat) : Int))) [c, Nb C X, z, [I 9, I 0, I 0, Y, .own true 3 [[dI f, dI t, dI w]]]])) := by
 obtain ⟨w', h1, h2, h3⟩ := hL
 obtain rfl := isS_w h2 hget
 simp (maxSteps:=9000000) only [go_sem, seval, h1, h3, hC, hX, hc, hz, hy, nat_lt hlt, nat_neg, tnc, hget, hlt, hf, ht, hh, nat_succ hlt hmax]
theorem xw_keep0np (hL : IsS 3 lr L) (hC : Oq C) (hX : Oq X) (hc : c.all (cellLt (bx.length + 4)) = true) (hz : z.all (cellLt (bx.length + 4)) = true) (hy : cellLt (bx.length + 4) Y = true) (hlt : i < lr.length) (hmax : lr.length < 9223372036854775808) (hget : lr[i]? = some [dI f, dI (tj : Int), dI w]) (hf : decide (f >= 0) = false) (ht : pr[tj]? = some [dI yt]) (hh : Cq 132 [.dat X, I i] (B false)) :
  Jq (.loop 102 11 (qs bx (sh102_11 (P1 bx) (P2 bx) (P3 bx) (.own true 1 pr) (.dat L) (I lr.length) (I i)) [c, Nb C X, z, [I 9, I 0, I 0, Y, .dat .nil]])) = ev cfg (.loop 102 11 (qs bx (sh102_11 (P1 bx) (P2 bx) (P3 bx) (.own true 1 pr) (.dat L) (I lr.length) (I ((i + 1 : Nat) : Int))) [c, Nb C X, z, [I 9, I 0, I 0, Y, .own true 3 [[dI f, dI yt, dI w]]]])) := by
 obtain ⟨w', h1, h2, h3⟩ := hL
 obtain rfl := isS_w h2 hget
 have ltt : tj < pr.length := (gsi.1 ht).1
 have nt : decide ((tj : Int) >= 0) = true := dqt (by omega)
 simp (maxSteps:=9000000) only [go_sem, seval, h1, h3, hC, hX, hc, hz, hy, nat_lt hlt, nat_neg, tnc, hget, hlt, hf, ht, hh, nat_succ hlt hmax, ltt, nt]
theorem xw_keep0pn (hL : IsS 3 lr L) (hC : Oq C) (hX : Oq X) (hc : c.all (cellLt (bx.length + 4)) = true) (hz : z.all (cellLt (bx.length + 4)) = true) (hy : cellLt (bx.length + 4) Y = true) (hlt : i < lr.length) (hmax : lr.length < 9223372036854775808) (hget : lr[i]? = some [dI (fj : Int), dI t, dI w]) (hf : pr[fj]? = some [dI yf]) (ht : decide (t >= 0) = false) (hh : Cq 132 [.dat X, I i] (B false)) :
  Jq (.loop 102 11 (qs bx (sh102_11 (P1 bx) (P2 bx) (P3 bx) (.own true 1 pr) (.dat L) (I lr.length) (I i)) [c, Nb C X, z, [I 9, I 0, I 0, Y, .dat .nil]])) = ev cfg (.loop 102 11 (qs bx (sh102_11 (P1 bx) (P2 bx) (P3 bx) (.own true 1 pr) (.dat L) (I lr.length) (I ((i + 1 : Nat) : Int))) [c, Nb C X, z, [I 9, I 0, I 0, Y, .own true 3 [[dI yf, dI t, dI w]]]])) := by
 obtain ⟨w', h1, h2, h3⟩ := hL
 obtain rfl := isS_w h2 hget
 have lf : fj < pr.length := (gsi.1 hf).1
 have nf : decide ((fj : Int) >= 0) = true := dqt (by omega)
 simp (maxSteps:=9000000) only [go_sem, seval, h1, h3, hC, hX, hc, hz, hy, nat_lt hlt, nat_neg, tnc, hget, hlt, hf, ht, hh, nat_succ hlt hmax, lf, nf]
theorem xw_keep0pp (hL : IsS 3 lr L) (hC : Oq C) (hX : Oq X) (hc : c.all (cellLt (bx.length + 4)) = true) (hz : z.all (cellLt (bx.length + 4)) = true) (hy : cellLt (bx.length + 4) Y = true) (hlt : i < lr.length) (hmax : lr.length < 9223372036854775808) (hget : lr[i]? = some [dI (fj : Int), dI (tj : Int), dI w]) (hf : pr[fj]? = some [dI yf]) (ht : pr[tj]? = some [dI yt]) (hh : Cq 132 [.dat X, I i] (B false)) :
  Jq (.loop 102 11 (qs bx (sh102_11 (P1 bx) (P2 bx) (P3 bx) (.own true 1 pr) (.dat L) (I lr.length) (I i)) [c, Nb C X, z, [I 9, I 0, I 0, Y, .dat .nil]])) = ev cfg (.loop 102 11 (qs bx (sh102_11 (P1 bx) (P2 bx) (P3 bx) (.own true 1 pr) (.dat L) (I lr.length) (I ((i + 1 : Nat) : Int))) [c, Nb C X, z, [I 9, I 0, I 0, Y, .own true 3 [[dI yf, dI yt, dI w]]]])) := by
 obtain ⟨w', h1, h2, h3⟩ := hL
 obtain rfl := isS_w h2 hget
 have lf : fj < pr.length := (gsi.1 hf).1
 have nf : decide ((fj : Int) >= 0) = true := dqt (by omega)
 have ltt : tj < pr.length := (gsi.1 ht).1
 have nt : decide ((tj : Int) >= 0) = true := dqt (by omega)
 simp (maxSteps:=9000000) only [go_sem, seval, h1, h3, hC, hX, hc, hz, hy, nat_lt hlt, nat_neg, tnc, hget, hlt, hf, ht, hh, nat_succ hlt hmax, lf, nf, ltt, nt]
end
section
variable {bx : List Box} {c z : Box} {lr pr ls : List (List D)} {L X C : D} {Y : PV} {i fj tj : Nat} {f t w yf yt : Int}
theorem xw_keep1nn (hL : IsS 3 lr L) (hC : Oq C) (hX : Oq X) (hc : c.all (cellLt (bx.length + 4)) = true) (hz : z.all (cellLt (bx.length + 4)) = true) (hy : cellLt (bx.length + 4) Y = true) (hlt : i < lr.length) (hmax : lr.length < 9223372036854775808) (hks : (ls.length + 1) * 24 <= 140737488355328) (hget : lr[i]? = some [dI f, dI t, dI w]) (hf : decide (f >= 0) = false) (ht : decide (t >= 0) = false) (hh : Cq 132 [.dat X, I i] (B false)) :
  Jq (.loop 102 11 (qs bx (sh102_11 (P1 bx) (P2 bx) (P3 bx) (.own true 1 pr) (.dat L) (I lr.length) (I i)) [c, Nb C X, z, [I 9, I 0, I 0, Y, .own true 3 ls]])) = ev cfg (.loop 102 11 (qs bx (sh102_11 (P1 bx) (P2 bx) (P3 bx) (.own true 1 pr) (.dat L) (I lr.length) (I ((i + 1 : Nat) : Int))) [c, Nb C X, z, [I 9, I 0, I 0, Y, .own true 3 (ls ++ [[dI f, dI t, dI w]])]])) := by
 obtain ⟨w', h1, h2, h3⟩ := hL
 obtain rfl := isS_w h2 hget
 simp (maxSteps:=9000000) only [go_sem, seval, h1, h3, hC, hX, hc, hz, hy, nat_lt hlt, nat_neg, tnc, hget, hlt, hf, ht, hh, nat_succ hlt hmax, hks]
theorem xw_keep1np (hL : IsS 3 lr L) (hC : Oq C) (hX : Oq X) (hc : c.all (cellLt (bx.length + 4)) = true) (hz : z.all (cellLt (bx.length + 4)) = true) (hy : cellLt (bx.length + 4) Y = true) (hlt : i < lr.length) (hmax : lr.length < 9223372036854775808) (hks : (ls.length + 1) * 24 <= 140737488355328) (hget : lr[i]? = some [dI f, dI (tj : Int), dI w]) (hf : decide (f >= 0) = false) (ht : pr[tj]? = some [dI yt]) (hh : Cq 132 [.dat X, I i] (B false)) :
  Jq (.loop 102 11 (qs bx (sh102_11 (P1 bx) (P2 bx) (P3 bx) (.own true 1 pr) (.dat L) (I lr.length) (I i)) [c, Nb C X, z, [I 9, I 0, I 0, Y, .own true 3 ls]])) = ev cfg (.loop 102 11 (qs bx (sh102_11 (P1 bx) (P2 bx) (P3 bx) (.own true 1 pr) (.dat L) (I lr.length) (I ((i + 1 : Nat) : Int))) [c, Nb C X, z, [I 9, I 0, I 0, Y, .own true 3 (ls ++ [[dI f, dI yt, dI w]])]])) := by
 obtain ⟨w', h1, h2, h3⟩ := hL
 obtain rfl := isS_w h2 hget
 have ltt : tj < pr.length := (gsi.1 ht).1
 have nt : decide ((tj : Int) >= 0) = true := dqt (by omega)
 simp (maxSteps:=9000000) only [go_sem, seval, h1, h3, hC, hX, hc, hz, hy, nat_lt hlt, nat_neg, tnc, hget, hlt, hf, ht, hh, nat_succ hlt hmax, ltt, nt, hks]
theorem xw_keep1pn (hL : IsS 3 lr L) (hC : Oq C) (hX : Oq X) (hc : c.all (cellLt (bx.length + 4)) = true) (hz : z.all (cellLt (bx.length + 4)) = true) (hy : cellLt (bx.length + 4) Y = true) (hlt : i < lr.length) (hmax : lr.length < 9223372036854775808) (hks : (ls.length + 1) * 24 <= 140737488355328) (hget : lr[i]? = some [dI (fj : Int), dI t, dI w]) (hf : pr[fj]? = some [dI yf]) (ht : decide (t >= 0) = false) (hh : Cq 132 [.dat X, I i] (B false)) :
  Jq (.loop 102 11 (qs bx (sh102_11 (P1 bx) (P2 bx) (P3 bx) (.own true 1 pr) (.dat L) (I lr.length) (I i)) [c, Nb C X, z, [I 9, I 0, I 0, Y, .own true 3 ls]])) = ev cfg (.loop 102 11 (qs bx (sh102_11 (P1 bx) (P2 bx) (P3 bx) (.own true 1 pr) (.dat L) (I lr.length) (I ((i + 1 : Nat) : Int))) [c, Nb C X, z, [I 9, I 0, I 0, Y, .own true 3 (ls ++ [[dI yf, dI t, dI w]])]])) := by
 obtain ⟨w', h1, h2, h3⟩ := hL
 obtain rfl := isS_w h2 hget
 have lf : fj < pr.length := (gsi.1 hf).1
 have nf : decide ((fj : Int) >= 0) = true := dqt (by omega)
 simp (maxSteps:=9000000) only [go_sem, seval, h1, h3, hC, hX, hc, hz, hy, nat_lt hlt, nat_neg, tnc, hget, hlt, hf, ht, hh, nat_succ hlt hmax, lf, nf, hks]
theorem xw_keep1pp (hL : IsS 3 lr L) (hC : Oq C) (hX : Oq X) (hc : c.all (cellLt (bx.length + 4)) = true) (hz : z.all (cellLt (bx.length + 4)) = true) (hy : cellLt (bx.length + 4) Y = true) (hlt : i < lr.length) (hmax : lr.length < 9223372036854775808) (hks : (ls.length + 1) * 24 <= 140737488355328) (hget : lr[i]? = some [dI (fj : Int), dI (tj : Int), dI w]) (hf : pr[fj]? = some [dI yf]) (ht : pr[tj]? = some [dI yt]) (hh : Cq 132 [.dat X, I i] (B false)) :
  Jq (.loop 102 11 (qs bx (sh102_11 (P1 bx) (P2 bx) (P3 bx) (.own true 1 pr) (.dat L) (I lr.length) (I i)) [c, Nb C X, z, [I 9, I 0, I 0, Y, .own true 3 ls]])) = ev cfg (.loop 102 11 (qs bx (sh102_11 (P1 bx) (P2 bx) (P3 bx) (.own true 1 pr) (.dat L) (I lr.length) (I ((i + 1 : Nat) : Int))) [c, Nb C X, z, [I 9, I 0, I 0, Y, .own true 3 (ls ++ [[dI yf, dI yt, dI w]])]])) := by
 obtain ⟨w', h1, h2, h3⟩ := hL
 obtain rfl := isS_w h2 hget
 have lf : fj < pr.length := (gsi.1 hf).1
 have nf : decide ((fj : Int) >= 0) = true := dqt (by omega)
 have ltt : tj < pr.length := (gsi.1 ht).1
 have nt : decide ((tj : Int) >= 0) = true := dqt (by omega)
 simp (maxSteps:=9000000) only [go_sem, seval, h1, h3, hC, hX, hc, hz, hy, nat_lt hlt, nat_neg, tnc, hget, hlt, hf, ht, hh, nat_succ hlt hmax, lf, nf, ltt, nt, hks]
end
section
variable {bx : List Box} {c z : Box} {kr lr pr ks ls : List (List D)} {K L X C : D} {Y : PV} {i : Nat} {kd nd ar f t w : Int}
theorem xw_gone0 (hL : IsS 3 lr L) (hC : Oq C) (hX : Oq X) (hc : c.all (cellLt (bx.length + 4)) = true) (hz : z.all (cellLt (bx.length + 4)) = true) (hy : cellLt (bx.length + 4) Y = true) (hlt : i < lr.length) (hmax : lr.length < 9223372036854775808) (hget : lr[i]? = some [dI f, dI t, dI w]) (hh : Cq 132 [.dat X, I i] (B true)) :
  Jq (.loop 102 11 (qs bx (sh102_11 (P1 bx) (P2 bx) (P3 bx) (.own true 1 pr) (.dat L) (I lr.length) (I i)) [c, Nb C X, z, [I 9, I 0, I 0, Y, .dat .nil]])) = ev cfg (.loop 102 11 (qs bx (sh102_11 (P1 bx) (P2 bx) (P3 bx) (.own true 1 pr) (.dat L) (I lr.length) (I ((i + 1 : Nat) : Int))) [c, Nb C X, z, [I 9, I 0, I 0, Y, .dat .nil]])) := by
 obtain ⟨w', h1, h2, h3⟩ := hL
 obtain rfl := isS_w h2 hget
 simp (maxSteps:=9000000) only [go_sem, seval, h1, h3, hC, hX, hc, hz, hy, nat_lt hlt, nat_neg, tnc, hget, hlt, hh, nat_succ hlt hmax]
theorem xw_gone1 (hL : IsS 3 lr L) (hC : Oq C) (hX : Oq X) (hc : c.all (cellLt (bx.length + 4)) = true) (hz : z.all (cellLt (bx.length + 4)) = true) (hy : cellLt (bx.length + 4) Y = true) (hlt : i < lr.length) (hmax : lr.length < 9223372036854775808) (hget : lr[i]? = some [dI f, dI t, dI w]) (hh : Cq 132 [.dat X, I i] (B true)) :
  Jq (.loop 102 11 (qs bx (sh102_11 (P1 bx) (P2 bx) (P3 bx) (.own true 1 pr) (.dat L) (I lr.length) (I i)) [c, Nb C X, z, [I 9, I 0, I 0, Y, .own true 3 ls]])) = ev cfg (.loop 102 11 (qs bx (sh102_11 (P1 bx) (P2 bx) (P3 bx) (.own true 1 pr) (.dat L) (I lr.length) (I ((i + 1 : Nat) : Int))) [c, Nb C X, z, [I 9, I 0, I 0, Y, .own true 3 ls]])) := by
 obtain ⟨w', h1, h2, h3⟩ := hL
 obtain rfl := isS_w h2 hget
 simp (maxSteps:=9000000) only [go_sem, seval, h1, h3, hC, hX, hc, hz, hy, nat_lt hlt, nat_neg, tnc, hget, hlt, hh, nat_succ hlt hmax]
theorem xw_lend {Z : PV} {m : Nat} (hL : Oq L) (hC : Oq C) (hX : Oq X) (hc : c.all (cellLt (bx.length + 4)) = true) (hz : z.all (cellLt (bx.length + 4)) = true) (hy : cellLt (bx.length + 4) Y = true) (hZ : cellLt (bx.length + 4) Z = true) (hge : m <= i) :
  Jq (.loop 102 11 (qs bx (sh102_11 (P1 bx) (P2 bx) (P3 bx) (.own true 1 pr) (.dat L) (I m) (I i)) [c, Nb C X, z, [I 9, I 0, I 0, Y, Z]])) = some (.loop (.exit 2) (qs bx (se102_11 (P2 bx) (P3 bx)) [c, Nb C X, z, [I 9, I 0, I 0, Y, Z]])) := by
 simp (maxSteps:=9000000) only [go_sem, seval, hL, hC, hX, hc, hz, hy, hZ, nat_ge hge]
theorem xw_f (hK : IsS 5 kr K) (hL : IsS 3 lr L) (hC : Oq C) (hX : Oq X) (hbig : kr.length * 8 <= 140737488355328)
  (h1 : ∀ c z : Box, c.all (cellLt (bx.length + 4)) = true -> z.all (cellLt (bx.length + 4)) = true -> ev cfg (.loop 102 4 (qs bx (sh102_4 (P0 bx) (P1 bx) (P2 bx) (P3 bx) (.own true 1 (List.replicate kr.length [dI 0])) (.dat K) (I kr.length) (I 0)) [c, Nb C X, z, Wx 9 0 0 .nil .nil])) = some (.loop (.exit 0) (qs bx (se102_4 (P0 bx) (P1 bx) (P2 bx) (P3 bx) (.own true 1 pr)) [c, Nb C X, z, [I 9, I 0, I 0, mkS 5 ks, .dat .nil]])))
  (h2 : ∀ c z : Box, c.all (cellLt (bx.length + 4)) = true -> z.all (cellLt (bx.length + 4)) = true -> ev cfg (.loop 102 11 (qs bx (sh102_11 (P1 bx) (P2 bx) (P3 bx) (.own true 1 pr) (.dat L) (I lr.length) (I 0)) [c, Nb C X, z, [I 9, I 0, I 0, mkS 5 ks, .dat .nil]])) = some (.loop (.exit 2) (qs bx (se102_11 (P2 bx) (P3 bx)) [c, Nb C X, z, [I 9, I 0, I 0, mkS 5 ks, mkS 3 ls]]))) :
  Jq (.call 102 [Wq kd nd ar K L, Nq C X] bx) = Rq (Wq 9 0 0 (mkD 5 ks) (mkD 3 ls)) := by
 obtain ⟨w, e1, e2, e3⟩ := hK
 obtain ⟨w', g1, g2, g3⟩ := hL
 have hz : (0 : Int) <= (kr.length : Int) := by omega
 have l1 := h1 (Wx kd nd ar K L) E6 (by simp [cellLt]) (by simp [cellLt])
 have l2 := h2 (Wx kd nd ar K L) E6 (by simp [cellLt]) (by simp [cellLt])
 cases ks <;> cases ls <;> simp only [mkS] at l1 l2 <;> simp (maxSteps:=9000000) only [go_sem, seval, mkD, e1, e3, g1, g3, hC, hX, l1, l2, nat_neg, tnc, hbig, hz]
end
end Go.Proofs.YtifckjhggamefaaGreatDoor
