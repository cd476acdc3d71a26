/- Rounds of the reference of layer 11: closing, its call. No condition. -/
import Derived.Test.YtifckjhggamefaaGreatDoorAt
import Derived.Test.YtifckjhggamefaaGreatDoorPb
set_option linter.unusedSimpArgs false
set_option linter.unusedVariables false
set_option linter.unusedSectionVars false
namespace Go.Proofs.YtifckjhggamefaaGreatDoor
open Go Go.Vx
set_option maxHeartbeats 8000000
set_option maxRecDepth 10000
section
variable {bx : List Box} {os wr ws : List (List D)} {w1 : List D} {N F K L : D} {i m : Nat} {kd nd ar k s j b0 l0 gj : Int}
theorem xcl_end (hN : Oq N) (hF : Oq F) (hK : Oq K) (hL : Oq L) {m : Nat} (hge : m <= i) :
  Jq (.loop 103 12 (qs bx (sh103_12 (I s) (P0 bx) (P1 bx) (I k) (I j) (.own true 3 wr) (I m) (I i)) [Nb N F, Wx kd nd ar K L])) = some (.loop (.exit 0) (qs bx (se103_12 .dead (I j)) [Nb N F, Wx kd nd ar K L])) := by
 simp (maxSteps:=9000000) only [go_sem, seval, hN, hF, hK, hL, nat_ge hge]
theorem xcl_a (hN : Oq N) (hF : Oq F) (hK : Oq K) (hL : Oq L) (hg : Cq 32 [Nq N F, Wq kd nd ar K L, I s] (I k)) (hw : Cq 104 [Nq N F, Wq kd nd ar K L, I s] (.own true 3 (os))) (h : (k == 0) = true) : Jq (.call 103 [Nq N F, Wq kd nd ar K L, I s] bx) = Rq (I (-1)) := by
 simp (maxSteps:=9000000) only [go_sem, seval, hN, hF, hK, hL, hg, hw, h]
theorem xcl_b (hN : Oq N) (hF : Oq F) (hK : Oq K) (hL : Oq L) (hg : Cq 32 [Nq N F, Wq kd nd ar K L, I s] (I k)) (hw : Cq 104 [Nq N F, Wq kd nd ar K L, I s] (.own true 3 ([[dI j, dI b0, dI l0]]))) (h : (k == 0) = false) : Jq (.call 103 [Nq N F, Wq kd nd ar K L, I s] bx) = Rq (I (-1)) := by
 have z0 : decide ((((0 : Nat) + 1 : Nat) : Int) < 2) = true := rfl
 simp (maxSteps:=9000000) only [go_sem, seval, hN, hF, hK, hL, hg, hw, h, z0]
theorem xcl_c1 (hN : Oq N) (hF : Oq F) (hK : Oq K) (hL : Oq L) (hg : Cq 32 [Nq N F, Wq kd nd ar K L, I s] (I k)) (hw : Cq 104 [Nq N F, Wq kd nd ar K L, I s] (.own true 3 ([dI j, dI b0, dI l0] :: w1 :: ws))) (h : (k == 0) = false) (h1 : decide (j < 0) = true) : Jq (.call 103 [Nq N F, Wq kd nd ar K L, I s] bx) = Rq (I (-1)) := by
 have z0 : decide (((ws.length + 1 + 1 : Nat) : Int) < 2) = false := dqf (by omega)
 have z2 : 0 < ws.length + 1 + 1 := by omega
 cases k6 : (k == 6) <;> simp (maxSteps:=9000000) only [go_sem, seval, hN, hF, hK, hL, hg, hw, h, z0, z2, k6, h1]
theorem xcl_c2 (hN : Oq N) (hF : Oq F) (hK : Oq K) (hL : Oq L) (hg : Cq 32 [Nq N F, Wq kd nd ar K L, I s] (I k)) (hw : Cq 104 [Nq N F, Wq kd nd ar K L, I s] (.own true 3 ([dI j, dI b0, dI l0] :: w1 :: ws))) (h : (k == 0) = false) (h1 : decide (j < 0) = false) (h2 : (j == s) = true) : Jq (.call 103 [Nq N F, Wq kd nd ar K L, I s] bx) = Rq (I (-1)) := by
 have z0 : decide (((ws.length + 1 + 1 : Nat) : Int) < 2) = false := dqf (by omega)
 have z2 : 0 < ws.length + 1 + 1 := by omega
 cases k6 : (k == 6) <;> simp (maxSteps:=9000000) only [go_sem, seval, hN, hF, hK, hL, hg, hw, h, z0, z2, k6, h1, h2]
theorem xcl_c36 (hN : Oq N) (hF : Oq F) (hK : Oq K) (hL : Oq L) (hg : Cq 32 [Nq N F, Wq kd nd ar K L, I s] (I k)) (hw : Cq 104 [Nq N F, Wq kd nd ar K L, I s] (.own true 3 ([dI j, dI b0, dI l0] :: w1 :: ws))) (h : (k == 0) = false) (h6 : (k == 6) = true) (h1 : decide (j < 0) = false) (h2 : (j == s) = false) (hgj : Cq 32 [Nq N F, Wq kd nd ar K L, I j] (I gj)) (h3 : (gj != 6) = true) : Jq (.call 103 [Nq N F, Wq kd nd ar K L, I s] bx) = Rq (I (-1)) := by
 have z0 : decide (((ws.length + 1 + 1 : Nat) : Int) < 2) = false := dqf (by omega)
 have z2 : 0 < ws.length + 1 + 1 := by omega
 simp (maxSteps:=9000000) only [go_sem, seval, hN, hF, hK, hL, hg, hw, h, z0, z2, h6, h1, h2, hgj, h3]
theorem xcl_c35 (hN : Oq N) (hF : Oq F) (hK : Oq K) (hL : Oq L) (hg : Cq 32 [Nq N F, Wq kd nd ar K L, I s] (I k)) (hw : Cq 104 [Nq N F, Wq kd nd ar K L, I s] (.own true 3 ([dI j, dI b0, dI l0] :: w1 :: ws))) (h : (k == 0) = false) (h6 : (k == 6) = false) (h1 : decide (j < 0) = false) (h2 : (j == s) = false) (hgj : Cq 32 [Nq N F, Wq kd nd ar K L, I j] (I gj)) (h3 : (gj != 5) = true) : Jq (.call 103 [Nq N F, Wq kd nd ar K L, I s] bx) = Rq (I (-1)) := by
 have z0 : decide (((ws.length + 1 + 1 : Nat) : Int) < 2) = false := dqf (by omega)
 have z2 : 0 < ws.length + 1 + 1 := by omega
 simp (maxSteps:=9000000) only [go_sem, seval, hN, hF, hK, hL, hg, hw, h, z0, z2, h6, h1, h2, hgj, h3]
theorem xcl_c46 (hN : Oq N) (hF : Oq F) (hK : Oq K) (hL : Oq L) (hg : Cq 32 [Nq N F, Wq kd nd ar K L, I s] (I k)) (hw : Cq 104 [Nq N F, Wq kd nd ar K L, I s] (.own true 3 ([dI j, dI b0, dI l0] :: w1 :: ws))) (h : (k == 0) = false) (h6 : (k == 6) = true) (h1 : decide (j < 0) = false) (h2 : (j == s) = false) (hgj : Cq 32 [Nq N F, Wq kd nd ar K L, I j] (I gj)) (h3 : (gj != 6) = false) (hoj : Cq 57 [Wq kd nd ar K L, I j] (.own true 1 os)) (h4 : ((os.length : Int) != 1) = true) : Jq (.call 103 [Nq N F, Wq kd nd ar K L, I s] bx) = Rq (I (-1)) := by
 have z0 : decide (((ws.length + 1 + 1 : Nat) : Int) < 2) = false := dqf (by omega)
 have z2 : 0 < ws.length + 1 + 1 := by omega
 simp (maxSteps:=9000000) only [go_sem, seval, hN, hF, hK, hL, hg, hw, h, z0, z2, h6, h1, h2, hgj, h3, hoj, h4]
theorem xcl_c45 (hN : Oq N) (hF : Oq F) (hK : Oq K) (hL : Oq L) (hg : Cq 32 [Nq N F, Wq kd nd ar K L, I s] (I k)) (hw : Cq 104 [Nq N F, Wq kd nd ar K L, I s] (.own true 3 ([dI j, dI b0, dI l0] :: w1 :: ws))) (h : (k == 0) = false) (h6 : (k == 6) = false) (h1 : decide (j < 0) = false) (h2 : (j == s) = false) (hgj : Cq 32 [Nq N F, Wq kd nd ar K L, I j] (I gj)) (h3 : (gj != 5) = false) (hoj : Cq 57 [Wq kd nd ar K L, I j] (.own true 1 os)) (h4 : ((os.length : Int) != 1) = true) : Jq (.call 103 [Nq N F, Wq kd nd ar K L, I s] bx) = Rq (I (-1)) := by
 have z0 : decide (((ws.length + 1 + 1 : Nat) : Int) < 2) = false := dqf (by omega)
 have z2 : 0 < ws.length + 1 + 1 := by omega
 simp (maxSteps:=9000000) only [go_sem, seval, hN, hF, hK, hL, hg, hw, h, z0, z2, h6, h1, h2, hgj, h3, hoj, h4]
end
section
variable {bx : List Box} {fr lr os wr xs : List (List D)} {N F K L K2 L2 X R1 R2 R3 R4 R5 R6 R7 : D} {i q m : Nat} {kd nd ar f t to b_ la s j pk pn ff fto p1 p2 p3 : Int}
theorem xcl_7d2 (hN : Oq N) (hF : Oq F) (hK : Oq K) (hL : Oq L) (hget : wr[i]? = some [dI to, dI b_, dI la]) (hlt : i < wr.length) (hmax : wr.length < 9223372036854775808) (he : (to != j) = false) (hp : Cq 105 [Wq kd nd ar K L, Aq to b_ la] (Wq p1 p2 p3 K2 L2)) (o1 : Oq K2) (o2 : Oq L2) (hq : Cq 100 [Wq p1 p2 p3 K2 L2] (.dat X)) (hX : IsS 5 ([dI pk, dI pn, R1, R2, R7] :: xs) X) (hpk : (pk != 2) = true) :
  Jq (.loop 103 12 (qs bx (sh103_12 (I s) (P0 bx) (P1 bx) (I 7) (I j) (.own true 3 wr) (I wr.length) (I i)) [Nb N F, Wx kd nd ar K L])) = some (.loop .ret (qs bx (se103_12 (I (-1)) (I j)) [Nb N F, Wx kd nd ar K L])) := by
 obtain ⟨wx, x1, x2, x3⟩ := hX
 obtain rfl := isS_w (i := 0) x2 rfl
 have z0 : (((xs.length + 1 : Nat) : Int) == 0) = false := beq_eq_false_iff_ne.2 (by omega)
 have z2 : 0 < xs.length + 1 := by omega
 simp (maxSteps:=9000000) only [go_sem, seval, nat_lt hlt, nat_neg, tnc, hget, hlt, nat_succ hlt hmax, he, hN, hF, hK, hL, hp, o1, o2, hq, z0, z2, hpk, x1, x3]
theorem xcl_7d (hN : Oq N) (hF : IsS 6 fr F) (hK : Oq K) (hL : IsS 3 lr L) (hget : wr[i]? = some [dI to, dI b_, dI la]) (hlt : i < wr.length) (hmax : wr.length < 9223372036854775808) (he : (to != j) = false) (hp : Cq 105 [Wq kd nd ar K L, Aq to b_ la] (Wq p1 p2 p3 K2 L2)) (o1 : Oq K2) (o2 : Oq L2) (hq : Cq 100 [Wq p1 p2 p3 K2 L2] (.dat X)) (hX : IsS 5 ([dI pk, dI pn, R1, R2, R7] :: xs) X) (hpk : (pk != 2) = false) (ho : Cq 57 [Wq kd nd ar K L, I s] (.own true 1 os)) (h1 : os[i]? = some [dI q]) (h2 : lr[q]? = some [dI f, dI t, dI m]) (h3 : fr[m]? = some [dI ff, dI fto, R3, R4, R5, R6]) :
  Jq (.loop 103 12 (qs bx (sh103_12 (I s) (P0 bx) (P1 bx) (I 7) (I j) (.own true 3 wr) (I wr.length) (I i)) [Nb N F, Wx kd nd ar K L])) = if (pn != fto) = true then some (.loop .ret (qs bx (se103_12 (I (-1)) (I j)) [Nb N F, Wx kd nd ar K L])) else ev cfg (.loop 103 12 (qs bx (sh103_12 (I s) (P0 bx) (P1 bx) (I 7) (I j) (.own true 3 wr) (I wr.length) (I ((i + 1 : Nat) : Int))) [Nb N F, Wx kd nd ar K L])) := by
 obtain ⟨wx, x1, x2, x3⟩ := hX
 obtain rfl := isS_w (i := 0) x2 rfl
 have z0 : (((xs.length + 1 : Nat) : Int) == 0) = false := beq_eq_false_iff_ne.2 (by omega)
 have z2 : 0 < xs.length + 1 := by omega
 obtain ⟨w', e1, e2, e3⟩ := hF
 obtain rfl := isS_w e2 h3
 obtain ⟨w', g1, g2, g3⟩ := hL
 obtain rfl := isS_w g2 h2
 have l1 : i < os.length := (gsi.1 h1).1
 have l2 : q < lr.length := (gsi.1 h2).1
 have l3 : m < fr.length := (gsi.1 h3).1
 cases c0 : (pn != fto) <;> simp (maxSteps:=9000000) only [go_sem, seval, nat_lt hlt, nat_neg, tnc, hget, hlt, nat_succ hlt hmax, he, hN, hK, e1, e3, g1, g3, hp, o1, o2, hq, z0, z2, hpk, ho, h1, h2, h3, l1, l2, l3, c0, x1, x3]
end
section
variable {bx : List Box} {os ws ir : List (List D)} {w1 : List D} {N F K L : D} {kd nd ar k s j b0 l0 gj : Int}
theorem xcl_c56 (hN : Oq N) (hF : Oq F) (hK : Oq K) (hL : Oq L) (hg : Cq 32 [Nq N F, Wq kd nd ar K L, I s] (I k)) (hw : Cq 104 [Nq N F, Wq kd nd ar K L, I s] (.own true 3 ([dI j, dI b0, dI l0] :: w1 :: ws))) (h : (k == 0) = false) (h6 : (k == 6) = true) (h1 : decide (j < 0) = false) (h2 : (j == s) = false) (hgj : Cq 32 [Nq N F, Wq kd nd ar K L, I j] (I gj)) (h3 : (gj != 6) = false) (hoj : Cq 57 [Wq kd nd ar K L, I j] (.own true 1 os)) (h4 : ((os.length : Int) != 1) = false) (hij : Cq 56 [Wq kd nd ar K L, I j] (.own true 1 ir)) (h5 : ((ir.length : Int) != ((ws.length + 1 + 1 : Nat) : Int)) = true) : Jq (.call 103 [Nq N F, Wq kd nd ar K L, I s] bx) = Rq (I (-1)) := by
 have z0 : decide (((ws.length + 1 + 1 : Nat) : Int) < 2) = false := dqf (by omega)
 have z2 : 0 < ws.length + 1 + 1 := by omega
 simp (maxSteps:=9000000) only [go_sem, seval, hN, hF, hK, hL, hg, hw, h, z0, z2, h6, h1, h2, hgj, h3, hoj, h4, hij, h5]
theorem xcl_c55 (hN : Oq N) (hF : Oq F) (hK : Oq K) (hL : Oq L) (hg : Cq 32 [Nq N F, Wq kd nd ar K L, I s] (I k)) (hw : Cq 104 [Nq N F, Wq kd nd ar K L, I s] (.own true 3 ([dI j, dI b0, dI l0] :: w1 :: ws))) (h : (k == 0) = false) (h6 : (k == 6) = false) (h1 : decide (j < 0) = false) (h2 : (j == s) = false) (hgj : Cq 32 [Nq N F, Wq kd nd ar K L, I j] (I gj)) (h3 : (gj != 5) = false) (hoj : Cq 57 [Wq kd nd ar K L, I j] (.own true 1 os)) (h4 : ((os.length : Int) != 1) = false) (hij : Cq 56 [Wq kd nd ar K L, I j] (.own true 1 ir)) (h5 : ((ir.length : Int) != ((ws.length + 1 + 1 : Nat) : Int)) = true) : Jq (.call 103 [Nq N F, Wq kd nd ar K L, I s] bx) = Rq (I (-1)) := by
 have z0 : decide (((ws.length + 1 + 1 : Nat) : Int) < 2) = false := dqf (by omega)
 have z2 : 0 < ws.length + 1 + 1 := by omega
 simp (maxSteps:=9000000) only [go_sem, seval, hN, hF, hK, hL, hg, hw, h, z0, z2, h6, h1, h2, hgj, h3, hoj, h4, hij, h5]
theorem xcl_c66 (hN : Oq N) (hF : Oq F) (hK : Oq K) (hL : Oq L) (hg : Cq 32 [Nq N F, Wq kd nd ar K L, I s] (I k)) (hw : Cq 104 [Nq N F, Wq kd nd ar K L, I s] (.own true 3 ([dI j, dI b0, dI l0] :: w1 :: ws))) (h : (k == 0) = false) (h6 : (k == 6) = true) (h1 : decide (j < 0) = false) (h2 : (j == s) = false) (hgj : Cq 32 [Nq N F, Wq kd nd ar K L, I j] (I gj)) (h3 : (gj != 6) = false) (hoj : Cq 57 [Wq kd nd ar K L, I j] (.own true 1 os)) (h4 : ((os.length : Int) != 1) = false) (hij : Cq 56 [Wq kd nd ar K L, I j] (.own true 1 ir)) (h5 : ((ir.length : Int) != ((ws.length + 1 + 1 : Nat) : Int)) = false) (hl : ev cfg (.loop 103 12 (qs bx (sh103_12 (I s) (P0 bx) (P1 bx) (I k) (I j) (.own true 3 ([dI j, dI b0, dI l0] :: w1 :: ws)) (I ((ws.length + 1 + 1 : Nat) : Int)) (I 0)) [Nb N F, Wx kd nd ar K L])) = some (.loop .ret (qs bx (se103_12 (I (-1)) (I j)) [Nb N F, Wx kd nd ar K L]))) : Jq (.call 103 [Nq N F, Wq kd nd ar K L, I s] bx) = Rq (I (-1)) := by
 have z0 : decide (((ws.length + 1 + 1 : Nat) : Int) < 2) = false := dqf (by omega)
 have z2 : 0 < ws.length + 1 + 1 := by omega
 simp (maxSteps:=9000000) only [go_sem, seval, hN, hF, hK, hL, hg, hw, h, z0, z2, h6, h1, h2, hgj, h3, hoj, h4, hij, h5, hl]
theorem xcl_c65 (hN : Oq N) (hF : Oq F) (hK : Oq K) (hL : Oq L) (hg : Cq 32 [Nq N F, Wq kd nd ar K L, I s] (I k)) (hw : Cq 104 [Nq N F, Wq kd nd ar K L, I s] (.own true 3 ([dI j, dI b0, dI l0] :: w1 :: ws))) (h : (k == 0) = false) (h6 : (k == 6) = false) (h1 : decide (j < 0) = false) (h2 : (j == s) = false) (hgj : Cq 32 [Nq N F, Wq kd nd ar K L, I j] (I gj)) (h3 : (gj != 5) = false) (hoj : Cq 57 [Wq kd nd ar K L, I j] (.own true 1 os)) (h4 : ((os.length : Int) != 1) = false) (hij : Cq 56 [Wq kd nd ar K L, I j] (.own true 1 ir)) (h5 : ((ir.length : Int) != ((ws.length + 1 + 1 : Nat) : Int)) = false) (hl : ev cfg (.loop 103 12 (qs bx (sh103_12 (I s) (P0 bx) (P1 bx) (I k) (I j) (.own true 3 ([dI j, dI b0, dI l0] :: w1 :: ws)) (I ((ws.length + 1 + 1 : Nat) : Int)) (I 0)) [Nb N F, Wx kd nd ar K L])) = some (.loop .ret (qs bx (se103_12 (I (-1)) (I j)) [Nb N F, Wx kd nd ar K L]))) : Jq (.call 103 [Nq N F, Wq kd nd ar K L, I s] bx) = Rq (I (-1)) := by
 have z0 : decide (((ws.length + 1 + 1 : Nat) : Int) < 2) = false := dqf (by omega)
 have z2 : 0 < ws.length + 1 + 1 := by omega
 simp (maxSteps:=9000000) only [go_sem, seval, hN, hF, hK, hL, hg, hw, h, z0, z2, h6, h1, h2, hgj, h3, hoj, h4, hij, h5, hl]
theorem xcl_c76 (hN : Oq N) (hF : Oq F) (hK : Oq K) (hL : Oq L) (hg : Cq 32 [Nq N F, Wq kd nd ar K L, I s] (I k)) (hw : Cq 104 [Nq N F, Wq kd nd ar K L, I s] (.own true 3 ([dI j, dI b0, dI l0] :: w1 :: ws))) (h : (k == 0) = false) (h6 : (k == 6) = true) (h1 : decide (j < 0) = false) (h2 : (j == s) = false) (hgj : Cq 32 [Nq N F, Wq kd nd ar K L, I j] (I gj)) (h3 : (gj != 6) = false) (hoj : Cq 57 [Wq kd nd ar K L, I j] (.own true 1 os)) (h4 : ((os.length : Int) != 1) = false) (hij : Cq 56 [Wq kd nd ar K L, I j] (.own true 1 ir)) (h5 : ((ir.length : Int) != ((ws.length + 1 + 1 : Nat) : Int)) = false) (hl : ev cfg (.loop 103 12 (qs bx (sh103_12 (I s) (P0 bx) (P1 bx) (I k) (I j) (.own true 3 ([dI j, dI b0, dI l0] :: w1 :: ws)) (I ((ws.length + 1 + 1 : Nat) : Int)) (I 0)) [Nb N F, Wx kd nd ar K L])) = some (.loop (.exit 0) (qs bx (se103_12 .dead (I j)) [Nb N F, Wx kd nd ar K L]))) : Jq (.call 103 [Nq N F, Wq kd nd ar K L, I s] bx) = Rq (I j) := by
 have z0 : decide (((ws.length + 1 + 1 : Nat) : Int) < 2) = false := dqf (by omega)
 have z2 : 0 < ws.length + 1 + 1 := by omega
 simp (maxSteps:=9000000) only [go_sem, seval, hN, hF, hK, hL, hg, hw, h, z0, z2, h6, h1, h2, hgj, h3, hoj, h4, hij, h5, hl]
theorem xcl_c75 (hN : Oq N) (hF : Oq F) (hK : Oq K) (hL : Oq L) (hg : Cq 32 [Nq N F, Wq kd nd ar K L, I s] (I k)) (hw : Cq 104 [Nq N F, Wq kd nd ar K L, I s] (.own true 3 ([dI j, dI b0, dI l0] :: w1 :: ws))) (h : (k == 0) = false) (h6 : (k == 6) = false) (h1 : decide (j < 0) = false) (h2 : (j == s) = false) (hgj : Cq 32 [Nq N F, Wq kd nd ar K L, I j] (I gj)) (h3 : (gj != 5) = false) (hoj : Cq 57 [Wq kd nd ar K L, I j] (.own true 1 os)) (h4 : ((os.length : Int) != 1) = false) (hij : Cq 56 [Wq kd nd ar K L, I j] (.own true 1 ir)) (h5 : ((ir.length : Int) != ((ws.length + 1 + 1 : Nat) : Int)) = false) (hl : ev cfg (.loop 103 12 (qs bx (sh103_12 (I s) (P0 bx) (P1 bx) (I k) (I j) (.own true 3 ([dI j, dI b0, dI l0] :: w1 :: ws)) (I ((ws.length + 1 + 1 : Nat) : Int)) (I 0)) [Nb N F, Wx kd nd ar K L])) = some (.loop (.exit 0) (qs bx (se103_12 .dead (I j)) [Nb N F, Wx kd nd ar K L]))) : Jq (.call 103 [Nq N F, Wq kd nd ar K L, I s] bx) = Rq (I j) := by
 have z0 : decide (((ws.length + 1 + 1 : Nat) : Int) < 2) = false := dqf (by omega)
 have z2 : 0 < ws.length + 1 + 1 := by omega
 simp (maxSteps:=9000000) only [go_sem, seval, hN, hF, hK, hL, hg, hw, h, z0, z2, h6, h1, h2, hgj, h3, hoj, h4, hij, h5, hl]
end
section
variable {bx : List Box} {kr lr wr ck cl ps : List (List D)} {N F K L K' L' : D} {i m s j : Nat} {kd nd ar k n1 jj bk : Int}
theorem x2_next (hN : Oq N) (hF : Oq F) (hK : Oq K) (hL : Oq L) (hlt : s < kr.length) (hmax : kr.length < 9223372036854775808) (hc : Cq 103 [Nq N F, Wq kd nd ar K L, I s] (I jj)) (h : decide (jj < 0) = true) :
  Jq (.loop 66 2 (qs bx (sh66_2 (P0 bx) (P1 bx) (P2 bx) (I kr.length) (I s)) [Nb N F, Wx kd nd ar K L, [I 0, I 0, I 0, .dat .nil, .dat .nil, I 0]])) = ev cfg (.loop 66 2 (qs bx (sh66_2 (P0 bx) (P1 bx) (P2 bx) (I kr.length) (I ((s + 1 : Nat) : Int))) [Nb N F, Wx kd nd ar K L, [I 0, I 0, I 0, .dat .nil, .dat .nil, I 0]])) := by
 simp (maxSteps:=9000000) only [go_sem, seval, hN, hF, hK, hL, nat_lt hlt, nat_neg, tnc, nat_succ hlt hmax, hc, h]
theorem x2_end (hN : Oq N) (hF : Oq F) (hK : Oq K) (hL : Oq L) {m : Nat} (hge : m <= s) :
  Jq (.loop 66 2 (qs bx (sh66_2 (P0 bx) (P1 bx) (P2 bx) (I m) (I s)) [Nb N F, Wx kd nd ar K L, [I 0, I 0, I 0, .dat .nil, .dat .nil, I 0]])) = some (.loop (.exit 0) (qs bx (se66_2 (P1 bx) (P2 bx)) [Nb N F, Wx kd nd ar K L, [I 0, I 0, I 0, .dat .nil, .dat .nil, I 0]])) := by
 simp (maxSteps:=9000000) only [go_sem, seval, hN, hF, hK, hL, nat_ge hge]
theorem x2_none (hN : Oq N) (hF : Oq F) (hK : IsS 5 kr K) (hL : Oq L) (hl : ev cfg (.loop 66 2 (qs bx (sh66_2 (P0 bx) (P1 bx) (P2 bx) (I kr.length) (I 0)) [Nb N F, Wx kd nd ar K L, [I 0, I 0, I 0, .dat .nil, .dat .nil, I 0]])) = some (.loop (.exit 0) (qs bx (se66_2 (P1 bx) (P2 bx)) [Nb N F, Wx kd nd ar K L, [I 0, I 0, I 0, .dat .nil, .dat .nil, I 0]]))) :
  Jq (.call 66 [Nq N F, Wq kd nd ar K L] bx) = Rq (Wy kd nd ar K L 0) := by
 obtain ⟨w', e1, e2, e3⟩ := hK
 simp (maxSteps:=9000000) only [go_sem, seval, hN, hF, e1, e3, hL, hl]
theorem x2_some {c1 c2 c3 : Int} (hN : Oq N) (hF : Oq F) (hK : IsS 5 kr K) (hL : Oq L) (o1 : Oq K') (o2 : Oq L') (hl : ev cfg (.loop 66 2 (qs bx (sh66_2 (P0 bx) (P1 bx) (P2 bx) (I kr.length) (I 0)) [Nb N F, Wx kd nd ar K L, [I 0, I 0, I 0, .dat .nil, .dat .nil, I 0]])) = some (.loop .ret (qs bx (se66_2 (P1 bx) (P2 bx)) [Nb N F, Wx kd nd ar K L, [I c1, I c2, I c3, .dat K', .dat L', I 2]]))) :
  Jq (.call 66 [Nq N F, Wq kd nd ar K L] bx) = Rq (Wy c1 c2 c3 K' L' 2) := by
 obtain ⟨w', e1, e2, e3⟩ := hK
 simp (maxSteps:=9000000) only [go_sem, seval, hN, hF, e1, e3, hL, hl, o1, o2]
theorem x2_lend (hN : Oq N) (hF : Oq F) {m : Nat} (hge : m <= i) :
  Jq (.loop 66 11 (qs bx (sh66_11 (P1 bx) (P2 bx) (I s) (I j) (P3 bx) (I k) (P4 bx) (P5 bx) (.own true 3 wr) (I m) (I i)) [Nb N F, Wx kd nd ar (.sl 5 kr) (.sl 3 lr), [I 0, I 0, I 0, .dat .nil, .dat .nil, I 0], [I 9, I 0, I 0, .own true 5 kr, .own true 3 lr], [I bk, I n1, I 0, mkS 5 ps, .dat .nil], [.own true 1 ck, .own true 1 cl]])) = some (.loop (.exit 2) (qs bx (se66_11 (P1 bx) (P2 bx) (I s) (I j) (P3 bx) (P4 bx) (P5 bx)) [Nb N F, Wx kd nd ar (.sl 5 kr) (.sl 3 lr), [I 0, I 0, I 0, .dat .nil, .dat .nil, I 0], [I 9, I 0, I 0, .own true 5 kr, .own true 3 lr], [I bk, I n1, I 0, mkS 5 ps, .dat .nil], [.own true 1 ck, .own true 1 cl]])) := by
 cases ps <;> simp (maxSteps:=9000000) only [go_sem, seval, mkS, hN, hF, nat_ge hge]
end
section
variable {bx : List Box} {kr lr wr ck cl ps : List (List D)} {N F R1 R2 : D} {i s j : Nat} {kd nd ar k n1 p1 p2 p3 to b_ la bk : Int}
theorem x2_r0n (hN : Oq N) (hF : Oq F) (hget : wr[i]? = some [dI to, dI b_, dI la]) (hlt : i < wr.length) (hmax : wr.length < 9223372036854775808) (hp : Cq 105 [Wq kd nd ar (.sl 5 kr) (.sl 3 lr), Aq to b_ la] (Wq p1 p2 p3 R1 R2)) (o1 : Oq R1) (o2 : Oq R2) (hk : (k == 7) = false) (hcl : (cl.length + 1) * 8 <= 140737488355328) (hck : (ck.length + 1) * 8 <= 140737488355328) (hb : decide (b_ >= 0) = false) :
  Jq (.loop 66 11 (qs bx (sh66_11 (P1 bx) (P2 bx) (I s) (I j) (P3 bx) (I k) (P4 bx) (P5 bx) (.own true 3 wr) (I wr.length) (I i)) [Nb N F, Wx kd nd ar (.sl 5 kr) (.sl 3 lr), [I 0, I 0, I 0, .dat .nil, .dat .nil, I 0], [I 9, I 0, I 0, .own true 5 kr, .own true 3 lr], Wx bk n1 0 .nil .nil, [.own true 1 ck, .own true 1 cl]])) = ev cfg (.loop 66 11 (qs bx (sh66_11 (P1 bx) (P2 bx) (I s) (I j) (P3 bx) (I k) (P4 bx) (P5 bx) (.own true 3 wr) (I wr.length) (I ((i + 1 : Nat) : Int))) [Nb N F, Wx kd nd ar (.sl 5 kr) (.sl 3 lr), [I 0, I 0, I 0, .dat .nil, .dat .nil, I 0], [I 9, I 0, I 0, .own true 5 kr, .own true 3 lr], [I bk, I n1, I 0, .own true 5 [[dI p1, dI p2, dI p3, R1, R2]], .dat .nil], [.own true 1 ck, .own true 1 (cl ++ [[dI la]])]])) := by
 simp (maxSteps:=9000000) only [go_sem, seval, hN, hF, nat_lt hlt, nat_neg, tnc, hget, hlt, nat_succ hlt hmax, hp, o1, o2, hb, hcl, hck, hk]
theorem x2_r0y (hN : Oq N) (hF : Oq F) (hget : wr[i]? = some [dI to, dI b_, dI la]) (hlt : i < wr.length) (hmax : wr.length < 9223372036854775808) (hp : Cq 105 [Wq kd nd ar (.sl 5 kr) (.sl 3 lr), Aq to b_ la] (Wq p1 p2 p3 R1 R2)) (o1 : Oq R1) (o2 : Oq R2) (hk : (k == 7) = false) (hcl : (cl.length + 1) * 8 <= 140737488355328) (hck : (ck.length + 1) * 8 <= 140737488355328) (hb : decide (b_ >= 0) = true) :
  Jq (.loop 66 11 (qs bx (sh66_11 (P1 bx) (P2 bx) (I s) (I j) (P3 bx) (I k) (P4 bx) (P5 bx) (.own true 3 wr) (I wr.length) (I i)) [Nb N F, Wx kd nd ar (.sl 5 kr) (.sl 3 lr), [I 0, I 0, I 0, .dat .nil, .dat .nil, I 0], [I 9, I 0, I 0, .own true 5 kr, .own true 3 lr], Wx bk n1 0 .nil .nil, [.own true 1 ck, .own true 1 cl]])) = ev cfg (.loop 66 11 (qs bx (sh66_11 (P1 bx) (P2 bx) (I s) (I j) (P3 bx) (I k) (P4 bx) (P5 bx) (.own true 3 wr) (I wr.length) (I ((i + 1 : Nat) : Int))) [Nb N F, Wx kd nd ar (.sl 5 kr) (.sl 3 lr), [I 0, I 0, I 0, .dat .nil, .dat .nil, I 0], [I 9, I 0, I 0, .own true 5 kr, .own true 3 lr], [I bk, I n1, I 0, .own true 5 [[dI p1, dI p2, dI p3, R1, R2]], .dat .nil], [.own true 1 (ck ++ [[dI b_]]), .own true 1 (cl ++ [[dI la]])]])) := by
 simp (maxSteps:=9000000) only [go_sem, seval, hN, hF, nat_lt hlt, nat_neg, tnc, hget, hlt, nat_succ hlt hmax, hp, o1, o2, hb, hcl, hck, hk]
theorem x2_r1n (hN : Oq N) (hF : Oq F) (hget : wr[i]? = some [dI to, dI b_, dI la]) (hlt : i < wr.length) (hmax : wr.length < 9223372036854775808) (hp : Cq 105 [Wq kd nd ar (.sl 5 kr) (.sl 3 lr), Aq to b_ la] (Wq p1 p2 p3 R1 R2)) (o1 : Oq R1) (o2 : Oq R2) (hk : (k == 7) = false) (hcl : (cl.length + 1) * 8 <= 140737488355328) (hck : (ck.length + 1) * 8 <= 140737488355328) (hps : (ps.length + 1) * 72 <= 140737488355328) (hb : decide (b_ >= 0) = false) :
  Jq (.loop 66 11 (qs bx (sh66_11 (P1 bx) (P2 bx) (I s) (I j) (P3 bx) (I k) (P4 bx) (P5 bx) (.own true 3 wr) (I wr.length) (I i)) [Nb N F, Wx kd nd ar (.sl 5 kr) (.sl 3 lr), [I 0, I 0, I 0, .dat .nil, .dat .nil, I 0], [I 9, I 0, I 0, .own true 5 kr, .own true 3 lr], [I bk, I n1, I 0, .own true 5 ps, .dat .nil], [.own true 1 ck, .own true 1 cl]])) = ev cfg (.loop 66 11 (qs bx (sh66_11 (P1 bx) (P2 bx) (I s) (I j) (P3 bx) (I k) (P4 bx) (P5 bx) (.own true 3 wr) (I wr.length) (I ((i + 1 : Nat) : Int))) [Nb N F, Wx kd nd ar (.sl 5 kr) (.sl 3 lr), [I 0, I 0, I 0, .dat .nil, .dat .nil, I 0], [I 9, I 0, I 0, .own true 5 kr, .own true 3 lr], [I bk, I n1, I 0, .own true 5 (ps ++ [[dI p1, dI p2, dI p3, R1, R2]]), .dat .nil], [.own true 1 ck, .own true 1 (cl ++ [[dI la]])]])) := by
 simp (maxSteps:=9000000) only [go_sem, seval, hN, hF, nat_lt hlt, nat_neg, tnc, hget, hlt, nat_succ hlt hmax, hp, o1, o2, hb, hcl, hck, hps, hk]
theorem x2_r1y (hN : Oq N) (hF : Oq F) (hget : wr[i]? = some [dI to, dI b_, dI la]) (hlt : i < wr.length) (hmax : wr.length < 9223372036854775808) (hp : Cq 105 [Wq kd nd ar (.sl 5 kr) (.sl 3 lr), Aq to b_ la] (Wq p1 p2 p3 R1 R2)) (o1 : Oq R1) (o2 : Oq R2) (hk : (k == 7) = false) (hcl : (cl.length + 1) * 8 <= 140737488355328) (hck : (ck.length + 1) * 8 <= 140737488355328) (hps : (ps.length + 1) * 72 <= 140737488355328) (hb : decide (b_ >= 0) = true) :
  Jq (.loop 66 11 (qs bx (sh66_11 (P1 bx) (P2 bx) (I s) (I j) (P3 bx) (I k) (P4 bx) (P5 bx) (.own true 3 wr) (I wr.length) (I i)) [Nb N F, Wx kd nd ar (.sl 5 kr) (.sl 3 lr), [I 0, I 0, I 0, .dat .nil, .dat .nil, I 0], [I 9, I 0, I 0, .own true 5 kr, .own true 3 lr], [I bk, I n1, I 0, .own true 5 ps, .dat .nil], [.own true 1 ck, .own true 1 cl]])) = ev cfg (.loop 66 11 (qs bx (sh66_11 (P1 bx) (P2 bx) (I s) (I j) (P3 bx) (I k) (P4 bx) (P5 bx) (.own true 3 wr) (I wr.length) (I ((i + 1 : Nat) : Int))) [Nb N F, Wx kd nd ar (.sl 5 kr) (.sl 3 lr), [I 0, I 0, I 0, .dat .nil, .dat .nil, I 0], [I 9, I 0, I 0, .own true 5 kr, .own true 3 lr], [I bk, I n1, I 0, .own true 5 (ps ++ [[dI p1, dI p2, dI p3, R1, R2]]), .dat .nil], [.own true 1 (ck ++ [[dI b_]]), .own true 1 (cl ++ [[dI la]])]])) := by
 simp (maxSteps:=9000000) only [go_sem, seval, hN, hF, nat_lt hlt, nat_neg, tnc, hget, hlt, nat_succ hlt hmax, hp, o1, o2, hb, hcl, hck, hps, hk]
end
section
variable {bx : List Box} {kr lr wr xs ck cl ps : List (List D)} {x0 : List D} {N F R1 R2 R3 R4 : D} {i s j : Nat} {kd nd ar n1 p1 p2 p3 q1 q2 q3 to b_ la bk : Int}
theorem x2_r70n (hN : Oq N) (hF : Oq F) (hget : wr[i]? = some [dI to, dI b_, dI la]) (hlt : i < wr.length) (hmax : wr.length < 9223372036854775808) (hp : Cq 105 [Wq kd nd ar (.sl 5 kr) (.sl 3 lr), Aq to b_ la] (Wq p1 p2 p3 R1 R2)) (o1 : Oq R1) (o2 : Oq R2) (hq : Cq 100 [Wq p1 p2 p3 R1 R2] (.dat (.sl 5 (x0 :: xs)))) (hr : Cq 101 [.dat (.sl 5 xs)] (Wq q1 q2 q3 R3 R4)) (o3 : Oq R3) (o4 : Oq R4) (hcl : (cl.length + 1) * 8 <= 140737488355328) (hck : (ck.length + 1) * 8 <= 140737488355328) (hb : decide (b_ >= 0) = false) :
  Jq (.loop 66 11 (qs bx (sh66_11 (P1 bx) (P2 bx) (I s) (I j) (P3 bx) (I 7) (P4 bx) (P5 bx) (.own true 3 wr) (I wr.length) (I i)) [Nb N F, Wx kd nd ar (.sl 5 kr) (.sl 3 lr), [I 0, I 0, I 0, .dat .nil, .dat .nil, I 0], [I 9, I 0, I 0, .own true 5 kr, .own true 3 lr], Wx bk n1 0 .nil .nil, [.own true 1 ck, .own true 1 cl]])) = ev cfg (.loop 66 11 (qs bx (sh66_11 (P1 bx) (P2 bx) (I s) (I j) (P3 bx) (I 7) (P4 bx) (P5 bx) (.own true 3 wr) (I wr.length) (I ((i + 1 : Nat) : Int))) [Nb N F, Wx kd nd ar (.sl 5 kr) (.sl 3 lr), [I 0, I 0, I 0, .dat .nil, .dat .nil, I 0], [I 9, I 0, I 0, .own true 5 kr, .own true 3 lr], [I bk, I n1, I 0, .own true 5 [[dI q1, dI q2, dI q3, R3, R4]], .dat .nil], [.own true 1 ck, .own true 1 (cl ++ [[dI la]])]])) := by
 have z1 : (1 : Int) <= ((xs.length + 1 : Nat) : Int) := by omega
 have z2 : ((xs.length + 1 : Nat) : Int) <= ((xs.length + 1 : Nat) : Int) := by omega
 simp (maxSteps:=9000000) only [go_sem, seval, hN, hF, nat_lt hlt, nat_neg, tnc, hget, hlt, nat_succ hlt hmax, hp, o1, o2, hb, hcl, hck, hq, hr, o3, o4, z1, z2]
theorem x2_r70y (hN : Oq N) (hF : Oq F) (hget : wr[i]? = some [dI to, dI b_, dI la]) (hlt : i < wr.length) (hmax : wr.length < 9223372036854775808) (hp : Cq 105 [Wq kd nd ar (.sl 5 kr) (.sl 3 lr), Aq to b_ la] (Wq p1 p2 p3 R1 R2)) (o1 : Oq R1) (o2 : Oq R2) (hq : Cq 100 [Wq p1 p2 p3 R1 R2] (.dat (.sl 5 (x0 :: xs)))) (hr : Cq 101 [.dat (.sl 5 xs)] (Wq q1 q2 q3 R3 R4)) (o3 : Oq R3) (o4 : Oq R4) (hcl : (cl.length + 1) * 8 <= 140737488355328) (hck : (ck.length + 1) * 8 <= 140737488355328) (hb : decide (b_ >= 0) = true) :
  Jq (.loop 66 11 (qs bx (sh66_11 (P1 bx) (P2 bx) (I s) (I j) (P3 bx) (I 7) (P4 bx) (P5 bx) (.own true 3 wr) (I wr.length) (I i)) [Nb N F, Wx kd nd ar (.sl 5 kr) (.sl 3 lr), [I 0, I 0, I 0, .dat .nil, .dat .nil, I 0], [I 9, I 0, I 0, .own true 5 kr, .own true 3 lr], Wx bk n1 0 .nil .nil, [.own true 1 ck, .own true 1 cl]])) = ev cfg (.loop 66 11 (qs bx (sh66_11 (P1 bx) (P2 bx) (I s) (I j) (P3 bx) (I 7) (P4 bx) (P5 bx) (.own true 3 wr) (I wr.length) (I ((i + 1 : Nat) : Int))) [Nb N F, Wx kd nd ar (.sl 5 kr) (.sl 3 lr), [I 0, I 0, I 0, .dat .nil, .dat .nil, I 0], [I 9, I 0, I 0, .own true 5 kr, .own true 3 lr], [I bk, I n1, I 0, .own true 5 [[dI q1, dI q2, dI q3, R3, R4]], .dat .nil], [.own true 1 (ck ++ [[dI b_]]), .own true 1 (cl ++ [[dI la]])]])) := by
 have z1 : (1 : Int) <= ((xs.length + 1 : Nat) : Int) := by omega
 have z2 : ((xs.length + 1 : Nat) : Int) <= ((xs.length + 1 : Nat) : Int) := by omega
 simp (maxSteps:=9000000) only [go_sem, seval, hN, hF, nat_lt hlt, nat_neg, tnc, hget, hlt, nat_succ hlt hmax, hp, o1, o2, hb, hcl, hck, hq, hr, o3, o4, z1, z2]
theorem x2_r71n (hN : Oq N) (hF : Oq F) (hget : wr[i]? = some [dI to, dI b_, dI la]) (hlt : i < wr.length) (hmax : wr.length < 9223372036854775808) (hp : Cq 105 [Wq kd nd ar (.sl 5 kr) (.sl 3 lr), Aq to b_ la] (Wq p1 p2 p3 R1 R2)) (o1 : Oq R1) (o2 : Oq R2) (hq : Cq 100 [Wq p1 p2 p3 R1 R2] (.dat (.sl 5 (x0 :: xs)))) (hr : Cq 101 [.dat (.sl 5 xs)] (Wq q1 q2 q3 R3 R4)) (o3 : Oq R3) (o4 : Oq R4) (hcl : (cl.length + 1) * 8 <= 140737488355328) (hck : (ck.length + 1) * 8 <= 140737488355328) (hps : (ps.length + 1) * 72 <= 140737488355328) (hb : decide (b_ >= 0) = false) :
  Jq (.loop 66 11 (qs bx (sh66_11 (P1 bx) (P2 bx) (I s) (I j) (P3 bx) (I 7) (P4 bx) (P5 bx) (.own true 3 wr) (I wr.length) (I i)) [Nb N F, Wx kd nd ar (.sl 5 kr) (.sl 3 lr), [I 0, I 0, I 0, .dat .nil, .dat .nil, I 0], [I 9, I 0, I 0, .own true 5 kr, .own true 3 lr], [I bk, I n1, I 0, .own true 5 ps, .dat .nil], [.own true 1 ck, .own true 1 cl]])) = ev cfg (.loop 66 11 (qs bx (sh66_11 (P1 bx) (P2 bx) (I s) (I j) (P3 bx) (I 7) (P4 bx) (P5 bx) (.own true 3 wr) (I wr.length) (I ((i + 1 : Nat) : Int))) [Nb N F, Wx kd nd ar (.sl 5 kr) (.sl 3 lr), [I 0, I 0, I 0, .dat .nil, .dat .nil, I 0], [I 9, I 0, I 0, .own true 5 kr, .own true 3 lr], [I bk, I n1, I 0, .own true 5 (ps ++ [[dI q1, dI q2, dI q3, R3, R4]]), .dat .nil], [.own true 1 ck, .own true 1 (cl ++ [[dI la]])]])) := by
 have z1 : (1 : Int) <= ((xs.length + 1 : Nat) : Int) := by omega
 have z2 : ((xs.length + 1 : Nat) : Int) <= ((xs.length + 1 : Nat) : Int) := by omega
 simp (maxSteps:=9000000) only [go_sem, seval, hN, hF, nat_lt hlt, nat_neg, tnc, hget, hlt, nat_succ hlt hmax, hp, o1, o2, hb, hcl, hck, hps, hq, hr, o3, o4, z1, z2]
theorem x2_r71y (hN : Oq N) (hF : Oq F) (hget : wr[i]? = some [dI to, dI b_, dI la]) (hlt : i < wr.length) (hmax : wr.length < 9223372036854775808) (hp : Cq 105 [Wq kd nd ar (.sl 5 kr) (.sl 3 lr), Aq to b_ la] (Wq p1 p2 p3 R1 R2)) (o1 : Oq R1) (o2 : Oq R2) (hq : Cq 100 [Wq p1 p2 p3 R1 R2] (.dat (.sl 5 (x0 :: xs)))) (hr : Cq 101 [.dat (.sl 5 xs)] (Wq q1 q2 q3 R3 R4)) (o3 : Oq R3) (o4 : Oq R4) (hcl : (cl.length + 1) * 8 <= 140737488355328) (hck : (ck.length + 1) * 8 <= 140737488355328) (hps : (ps.length + 1) * 72 <= 140737488355328) (hb : decide (b_ >= 0) = true) :
  Jq (.loop 66 11 (qs bx (sh66_11 (P1 bx) (P2 bx) (I s) (I j) (P3 bx) (I 7) (P4 bx) (P5 bx) (.own true 3 wr) (I wr.length) (I i)) [Nb N F, Wx kd nd ar (.sl 5 kr) (.sl 3 lr), [I 0, I 0, I 0, .dat .nil, .dat .nil, I 0], [I 9, I 0, I 0, .own true 5 kr, .own true 3 lr], [I bk, I n1, I 0, .own true 5 ps, .dat .nil], [.own true 1 ck, .own true 1 cl]])) = ev cfg (.loop 66 11 (qs bx (sh66_11 (P1 bx) (P2 bx) (I s) (I j) (P3 bx) (I 7) (P4 bx) (P5 bx) (.own true 3 wr) (I wr.length) (I ((i + 1 : Nat) : Int))) [Nb N F, Wx kd nd ar (.sl 5 kr) (.sl 3 lr), [I 0, I 0, I 0, .dat .nil, .dat .nil, I 0], [I 9, I 0, I 0, .own true 5 kr, .own true 3 lr], [I bk, I n1, I 0, .own true 5 (ps ++ [[dI q1, dI q2, dI q3, R3, R4]]), .dat .nil], [.own true 1 (ck ++ [[dI b_]]), .own true 1 (cl ++ [[dI la]])]])) := by
 have z1 : (1 : Int) <= ((xs.length + 1 : Nat) : Int) := by omega
 have z2 : ((xs.length + 1 : Nat) : Int) <= ((xs.length + 1 : Nat) : Int) := by omega
 simp (maxSteps:=9000000) only [go_sem, seval, hN, hF, nat_lt hlt, nat_neg, tnc, hget, hlt, nat_succ hlt hmax, hp, o1, o2, hb, hcl, hck, hps, hq, hr, o3, o4, z1, z2]
end
section
variable {bx : List Box} {kr lr os wr ck cl ps os2 : List (List D)} {p0 o0 : List D} {N F R1 R2 K' L' : D} {q s j : Nat} {kd nd ar k1 n1 a1 qf qt qk : Int}
theorem x2_f5 (hN : Oq N) (hF : Oq F) (hlt : s < kr.length) (hmax : kr.length < 9223372036854775808) (hc : Cq 103 [Nq N F, Wq kd nd ar (.sl 5 kr) (.sl 3 lr), I s] (I j))
  (hcp : Cq 99 [Wq kd nd ar (.sl 5 kr) (.sl 3 lr)] (.bag [I 9, I 0, I 0, .own true 5 kr, .own true 3 lr]))
  (hg : Cq 32 [Nq N F, Wq kd nd ar (.sl 5 kr) (.sl 3 lr), I s] (I 5)) (hs : kr[s]? = some [dI k1, dI n1, dI a1, R1, R2])
  (hos : Cq 57 [Wq kd nd ar (.sl 5 kr) (.sl 3 lr), I s] (.own true 1 (o0 :: os))) (hwy : Cq 104 [Nq N F, Wq kd nd ar (.sl 5 kr) (.sl 3 lr), I s] (.own true 3 wr))
  (hl : ev cfg (.loop 66 11 (qs bx (sh66_11 (P1 bx) (P2 bx) (I s) (I j) (P3 bx) (I 5) (P4 bx) (P5 bx) (.own true 3 wr) (I wr.length) (I 0)) [Nb N F, Wx kd nd ar (.sl 5 kr) (.sl 3 lr), [I 0, I 0, I 0, .dat .nil, .dat .nil, I 0], [I 9, I 0, I 0, .own true 5 kr, .own true 3 lr], Wx 5 n1 0 .nil .nil, [.own true 1 [[dI j]], .own true 1 (o0 :: os)]])) = some (.loop (.exit 2) (qs bx (se66_11 (P1 bx) (P2 bx) (I s) (I j) (P3 bx) (P4 bx) (P5 bx)) [Nb N F, Wx kd nd ar (.sl 5 kr) (.sl 3 lr), [I 0, I 0, I 0, .dat .nil, .dat .nil, I 0], [I 9, I 0, I 0, .own true 5 kr, .own true 3 lr], [I 5, I n1, I 0, .own true 5 (p0 :: ps), .dat .nil], [.own true 1 ck, .own true 1 cl]])))
  (hoj : Cq 57 [Wq kd nd ar (.sl 5 kr) (.sl 3 lr), I j] (.own true 1 ([dI q] :: os2))) (hq : lr[q]? = some [dI qf, dI qt, dI qk])
  (hw : Cq 102 [Wq 9 0 0 (.sl 5 (kr.set s [dI 5, dI n1, dI 0, .sl 5 (p0 :: ps), .nil])) (.sl 3 (lr.set q [dI s, dI qt, dI qk])), Nq (.sl 1 ck) (.sl 1 cl)] (Wq 9 0 0 K' L')) (o7 : Oq K') (o8 : Oq L') :
  Jq (.loop 66 2 (qs bx (sh66_2 (P0 bx) (P1 bx) (P2 bx) (I kr.length) (I s)) [Nb N F, Wx kd nd ar (.sl 5 kr) (.sl 3 lr), [I 0, I 0, I 0, .dat .nil, .dat .nil, I 0]])) = some (.loop .ret (qs bx (se66_2 (P1 bx) (P2 bx)) [Nb N F, Wx kd nd ar (.sl 5 kr) (.sl 3 lr), [I 9, I 0, I 0, .dat K', .dat L', I 2]])) := by
 have lq : q < lr.length := (gsi.1 hq).1
 have z3 : 0 < os2.length + 1 := by omega
 have h1 : decide ((j : Int) < 0) = false := dqf (by omega)
 simp (maxSteps:=9000000) only [go_sem, seval, hN, hF, nat_lt hlt, nat_neg, tnc, nat_succ hlt hmax, hlt, hc, h1, hcp, hg, hs, hos, hwy, hl, hoj, hq, lq, z3, hw, o7, o8]
end
end Go.Proofs.YtifckjhggamefaaGreatDoor
