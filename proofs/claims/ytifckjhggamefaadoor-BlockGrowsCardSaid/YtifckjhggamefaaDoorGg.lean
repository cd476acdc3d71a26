/- Rounds of block.right: kinds 3, 4, 5, 6, others. No condition. -/
import Derived.Test.YtifckjhggamefaaDoorAt
import Derived.Test.YtifckjhggamefaaDoorPb
import Derived.Test.YtifckjhggamefaaDoorGe
set_option linter.unusedSimpArgs false
set_option linter.unusedVariables false
set_option linter.unusedSectionVars false
namespace Go.Proofs.YtifckjhggamefaaDoor
open Go Go.Vx
set_option maxHeartbeats 4000000
set_option maxRecDepth 10000
section
variable {bx : List Box} {nr lr rows : List (List D)} {N F K L : D} {k n : Int} {v : Bool}
theorem bright_3 (hN : IsS 5 nr N) (hF : F.oneC = true) (hK : IsS 5 rows K) (hL : IsS 3 lr L) (hl : decide ((lr.length : Int) > 0) = false) (hv : ∀ bx : List Box, ev cfg (.call 36 [.dat K, .clo 55 []] bx) = some (.ret (B v) none)) :
  stepJ (ev cfg) cfg (.call 35 [.agg [.dat N, .dat F], .agg [I 3, I n, I 0, .dat K, .dat L]] bx) = some (.ret (B (n == 0 && (decide ((rows.length : Int) > 1) && !v))) none) := by
 obtain ⟨w1, h1, h2, h3⟩ := hN
 obtain ⟨w2, q1, q2, q3⟩ := hK
 obtain ⟨w3, l1, l2, l3⟩ := hL
 cases c0 : decide (n >= 0)
 ·cases c1 : (n == 0)
  ·simp (maxSteps := 2000000) only [go_sem, seval, h1, h3, hF, q1, q3, l1, l3, nat_neg, tnc, hl, hv, c0, c1]
  ·cases c2 : decide ((rows.length : Int) > 1)
   ·simp (maxSteps := 2000000) only [go_sem, seval, h1, h3, hF, q1, q3, l1, l3, nat_neg, tnc, hl, hv, c0, c1, c2]
   ·simp (maxSteps := 2000000) only [go_sem, seval, h1, h3, hF, q1, q3, l1, l3, nat_neg, tnc, hl, hv, c0, c1, c2]
 ·cases c1 : (n == 0)
  ·simp (maxSteps := 2000000) only [go_sem, seval, h1, h3, hF, q1, q3, l1, l3, nat_neg, tnc, hl, hv, c0, c1]
  ·cases c2 : decide ((rows.length : Int) > 1)
   ·simp (maxSteps := 2000000) only [go_sem, seval, h1, h3, hF, q1, q3, l1, l3, nat_neg, tnc, hl, hv, c0, c1, c2]
   ·simp (maxSteps := 2000000) only [go_sem, seval, h1, h3, hF, q1, q3, l1, l3, nat_neg, tnc, hl, hv, c0, c1, c2]
theorem bright_4 (hN : IsS 5 nr N) (hF : F.oneC = true) (hK : IsS 5 rows K) (hL : IsS 3 lr L) (hl : decide ((lr.length : Int) > 0) = false) (hv : ∀ bx : List Box, ev cfg (.call 56 [.agg [.dat N, .dat F], I n, I 6, I rows.length] bx) = some (.ret (B v) none)) :
  stepJ (ev cfg) cfg (.call 35 [.agg [.dat N, .dat F], .agg [I 4, I n, I 0, .dat K, .dat L]] bx) = some (.ret (B (v)) none) := by
 obtain ⟨w1, h1, h2, h3⟩ := hN
 obtain ⟨w2, q1, q2, q3⟩ := hK
 obtain ⟨w3, l1, l2, l3⟩ := hL
 cases c0 : decide (n >= 0)
 ·simp (maxSteps := 2000000) only [go_sem, seval, h1, h3, hF, q1, q3, l1, l3, nat_neg, tnc, hl, hv, c0]
 ·simp (maxSteps := 2000000) only [go_sem, seval, h1, h3, hF, q1, q3, l1, l3, nat_neg, tnc, hl, hv, c0]
theorem bright_5 (hN : IsS 5 nr N) (hF : F.oneC = true) (hK : IsS 5 rows K) (hL : IsS 3 lr L) (hl : decide ((lr.length : Int) > 0) = false) (hv : ∀ bx : List Box, ev cfg (.call 56 [.agg [.dat N, .dat F], I n, I 5, I rows.length] bx) = some (.ret (B v) none)) :
  stepJ (ev cfg) cfg (.call 35 [.agg [.dat N, .dat F], .agg [I 5, I n, I 0, .dat K, .dat L]] bx) = some (.ret (B (v)) none) := by
 obtain ⟨w1, h1, h2, h3⟩ := hN
 obtain ⟨w2, q1, q2, q3⟩ := hK
 obtain ⟨w3, l1, l2, l3⟩ := hL
 cases c0 : decide (n >= 0)
 ·simp (maxSteps := 2000000) only [go_sem, seval, h1, h3, hF, q1, q3, l1, l3, nat_neg, tnc, hl, hv, c0]
 ·simp (maxSteps := 2000000) only [go_sem, seval, h1, h3, hF, q1, q3, l1, l3, nat_neg, tnc, hl, hv, c0]
theorem bright_6 (hN : IsS 5 nr N) (hF : F.oneC = true) (hK : IsS 5 rows K) (hL : IsS 3 lr L) (hl : decide ((lr.length : Int) > 0) = false) (hv : ∀ bx : List Box, ev cfg (.call 56 [.agg [.dat N, .dat F], I n, I 7, I rows.length] bx) = some (.ret (B v) none)) :
  stepJ (ev cfg) cfg (.call 35 [.agg [.dat N, .dat F], .agg [I 6, I n, I 0, .dat K, .dat L]] bx) = some (.ret (B (v)) none) := by
 obtain ⟨w1, h1, h2, h3⟩ := hN
 obtain ⟨w2, q1, q2, q3⟩ := hK
 obtain ⟨w3, l1, l2, l3⟩ := hL
 cases c0 : decide (n >= 0)
 ·simp (maxSteps := 2000000) only [go_sem, seval, h1, h3, hF, q1, q3, l1, l3, nat_neg, tnc, hl, hv, c0]
 ·simp (maxSteps := 2000000) only [go_sem, seval, h1, h3, hF, q1, q3, l1, l3, nat_neg, tnc, hl, hv, c0]
theorem bright_o (hN : IsS 5 nr N) (hF : F.oneC = true) (hK : IsS 5 rows K) (hL : IsS 3 lr L) (hl : decide ((lr.length : Int) > 0) = false) (k1 : (k == 1) = false) (k10 : (k == 10) = false) (k2 : (k == 2) = false) (k8 : (k == 8) = false) (k3 : (k == 3) = false) (k4 : (k == 4) = false) (k5 : (k == 5) = false) (k6 : (k == 6) = false) (k7 : (k == 7) = false) (k9 : (k == 9) = false) :
  stepJ (ev cfg) cfg (.call 35 [.agg [.dat N, .dat F], .agg [I k, I n, I 0, .dat K, .dat L]] bx) = some (.ret (B (false)) none) := by
 obtain ⟨w1, h1, h2, h3⟩ := hN
 obtain ⟨w2, q1, q2, q3⟩ := hK
 obtain ⟨w3, l1, l2, l3⟩ := hL
 cases c0 : decide (n >= 0)
 ·simp (maxSteps := 2000000) only [go_sem, seval, h1, h3, hF, q1, q3, l1, l3, nat_neg, tnc, hl, k1, k10, k2, k8, k3, k4, k5, k6, k7, k9, c0]
 ·simp (maxSteps := 2000000) only [go_sem, seval, h1, h3, hF, q1, q3, l1, l3, nat_neg, tnc, hl, k1, k10, k2, k8, k3, k4, k5, k6, k7, k9, c0]
end
section
variable {bx : List Box} {nr lr rows : List (List D)} {N F K L : D} {a n : Int} {v : Bool}
theorem bright_7 (hN : IsS 5 nr N) (hF : F.oneC = true) (hK : IsS 5 rows K) (hL : IsS 3 lr L) (hl : decide ((lr.length : Int) > 0) = false) (hb : ((a != 0) && (a != 1)) = false) (hv : ∀ bx : List Box, ev cfg (.call 56 [.agg [.dat N, .dat F], I n, I 5, I rows.length] bx) = some (.ret (B v) none)) :
  stepJ (ev cfg) cfg (.call 35 [.agg [.dat N, .dat F], .agg [I 7, I n, I a, .dat K, .dat L]] bx) = some (.ret (B ((rows.length : Int) == 2 && v)) none) := by
 obtain ⟨w1, h1, h2, h3⟩ := hN
 obtain ⟨w2, q1, q2, q3⟩ := hK
 obtain ⟨w3, l1, l2, l3⟩ := hL
 cases c0 : (a != 0)
 ·cases c1 : decide (n >= 0)
  ·cases c2 : ((rows.length : Int) == 2)
   ·simp (maxSteps := 2000000) only [go_sem, seval, h1, h3, hF, q1, q3, l1, l3, nat_neg, tnc, hl, hv, c0, c1, c2]
   ·simp (maxSteps := 2000000) only [go_sem, seval, h1, h3, hF, q1, q3, l1, l3, nat_neg, tnc, hl, hv, c0, c1, c2]
  ·cases c2 : ((rows.length : Int) == 2)
   ·simp (maxSteps := 2000000) only [go_sem, seval, h1, h3, hF, q1, q3, l1, l3, nat_neg, tnc, hl, hv, c0, c1, c2]
   ·simp (maxSteps := 2000000) only [go_sem, seval, h1, h3, hF, q1, q3, l1, l3, nat_neg, tnc, hl, hv, c0, c1, c2]
 ·cases c1 : (a != 1)
  ·cases c2 : decide (n >= 0)
   ·cases c3 : ((rows.length : Int) == 2)
    ·simp (maxSteps := 2000000) only [go_sem, seval, h1, h3, hF, q1, q3, l1, l3, nat_neg, tnc, hl, hv, c0, c1, c2, c3]
    ·simp (maxSteps := 2000000) only [go_sem, seval, h1, h3, hF, q1, q3, l1, l3, nat_neg, tnc, hl, hv, c0, c1, c2, c3]
   ·cases c3 : ((rows.length : Int) == 2)
    ·simp (maxSteps := 2000000) only [go_sem, seval, h1, h3, hF, q1, q3, l1, l3, nat_neg, tnc, hl, hv, c0, c1, c2, c3]
    ·simp (maxSteps := 2000000) only [go_sem, seval, h1, h3, hF, q1, q3, l1, l3, nat_neg, tnc, hl, hv, c0, c1, c2, c3]
  ·simp only [c0, c1, Bool.false_and, Bool.true_and, Bool.and_false, Bool.and_true, Bool.false_or, Bool.or_false, Bool.false_eq_true, Bool.true_eq_false] at hb
end
section
variable {bx : List Box} {nr lr rows : List (List D)} {N F K L : D} {n : Int}
theorem bright_1 (hN : IsS 5 nr N) (hF : F.oneC = true) (hK : IsS 5 rows K) (hL : IsS 3 lr L) (hl : decide ((lr.length : Int) > 0) = false) :
  stepJ (ev cfg) cfg (.call 35 [.agg [.dat N, .dat F], .agg [I 1, I n, I 0, .dat K, .dat L]] bx) = some (.ret (B (n == 0 && (rows.length : Int) == 0)) none) := by
 obtain ⟨w1, h1, h2, h3⟩ := hN
 obtain ⟨w2, q1, q2, q3⟩ := hK
 obtain ⟨w3, l1, l2, l3⟩ := hL
 cases c0 : decide (n >= 0)
 ·cases c1 : (n == 0)
  ·simp (maxSteps := 2000000) only [go_sem, seval, h1, h3, hF, q1, q3, l1, l3, nat_neg, tnc, hl, c0, c1]
  ·simp (maxSteps := 2000000) only [go_sem, seval, h1, h3, hF, q1, q3, l1, l3, nat_neg, tnc, hl, c0, c1]
 ·cases c1 : (n == 0)
  ·simp (maxSteps := 2000000) only [go_sem, seval, h1, h3, hF, q1, q3, l1, l3, nat_neg, tnc, hl, c0, c1]
  ·simp (maxSteps := 2000000) only [go_sem, seval, h1, h3, hF, q1, q3, l1, l3, nat_neg, tnc, hl, c0, c1]
theorem bright_10 (hN : IsS 5 nr N) (hF : F.oneC = true) (hK : IsS 5 rows K) (hL : IsS 3 lr L) (hl : decide ((lr.length : Int) > 0) = false) :
  stepJ (ev cfg) cfg (.call 35 [.agg [.dat N, .dat F], .agg [I 10, I n, I 0, .dat K, .dat L]] bx) = some (.ret (B (n == 0 && (rows.length : Int) == 0)) none) := by
 obtain ⟨w1, h1, h2, h3⟩ := hN
 obtain ⟨w2, q1, q2, q3⟩ := hK
 obtain ⟨w3, l1, l2, l3⟩ := hL
 cases c0 : decide (n >= 0)
 ·cases c1 : (n == 0)
  ·simp (maxSteps := 2000000) only [go_sem, seval, h1, h3, hF, q1, q3, l1, l3, nat_neg, tnc, hl, c0, c1]
  ·simp (maxSteps := 2000000) only [go_sem, seval, h1, h3, hF, q1, q3, l1, l3, nat_neg, tnc, hl, c0, c1]
 ·cases c1 : (n == 0)
  ·simp (maxSteps := 2000000) only [go_sem, seval, h1, h3, hF, q1, q3, l1, l3, nat_neg, tnc, hl, c0, c1]
  ·simp (maxSteps := 2000000) only [go_sem, seval, h1, h3, hF, q1, q3, l1, l3, nat_neg, tnc, hl, c0, c1]
end
section
variable {bx : List Box} {nr lr rows : List (List D)} {N F K L K2 : D} {p : Nat} {n op2 n2 kd aa : Int} {v : Bool}
theorem bright_2no (hN : IsS 5 nr N) (hF : F.oneC = true) (hK : IsS 5 rows K) (hL : IsS 3 lr L) (hl : decide ((lr.length : Int) > 0) = false) (h : (decide (n >= 0) && decide (n < (nr.length : Int))) = false) :
  stepJ (ev cfg) cfg (.call 35 [.agg [.dat N, .dat F], .agg [I 2, I n, I 0, .dat K, .dat L]] bx) = some (.ret (B (false)) none) := by
 obtain ⟨w1, h1, h2, h3⟩ := hN
 obtain ⟨w2, q1, q2, q3⟩ := hK
 obtain ⟨w3, l1, l2, l3⟩ := hL
 cases c0 : decide (n >= 0)
 ·simp (maxSteps := 2000000) only [go_sem, seval, h1, h3, hF, q1, q3, l1, l3, nat_neg, tnc, hl, c0]
 ·rw [c0, Bool.true_and] at h; simp (maxSteps := 2000000) only [go_sem, seval, h1, h3, hF, q1, q3, l1, l3, nat_neg, tnc, hl, h, c0]
theorem bright_2go (hN : IsS 5 nr N) (hF : F.oneC = true) (hK : IsS 5 rows K) (hL : IsS 3 lr L) (hl : decide ((lr.length : Int) > 0) = false) (hp : nr[p]? = some [dI kd, dI aa, dI op2, dI n2, K2]) (hv : ∀ bx : List Box, ev cfg (.call 29 [.dat (.sl 1 [[dI 3], [dI 4], [dI 8]]), I kd] bx) = some (.ret (B v) none)) :
  stepJ (ev cfg) cfg (.call 35 [.agg [.dat N, .dat F], .agg [I 2, I p, I 0, .dat K, .dat L]] bx) = some (.ret (B ((rows.length : Int) == 0 && v)) none) := by
 obtain ⟨w1, h1, h2, h3⟩ := hN
 obtain rfl := isS_w h2 hp
 obtain ⟨w2, q1, q2, q3⟩ := hK
 obtain ⟨w3, l1, l2, l3⟩ := hL
 have lp : p < nr.length := (gsi.1 hp).1
 have z1 : decide ((p : Int) >= 0) = true := dqt (by omega)
 have z2 : decide ((p : Int) < (nr.length : Int)) = true := dqt (by omega)
 cases c0 : ((rows.length : Int) == 0)
 ·simp (maxSteps := 2000000) only [go_sem, seval, h1, h3, hF, q1, q3, l1, l3, nat_neg, tnc, hl, hv, hp, lp, z1, z2, c0]
 ·simp (maxSteps := 2000000) only [go_sem, seval, h1, h3, hF, q1, q3, l1, l3, nat_neg, tnc, hl, hv, hp, lp, z1, z2, c0]
theorem bright_8no (hN : IsS 5 nr N) (hF : F.oneC = true) (hK : IsS 5 rows K) (hL : IsS 3 lr L) (hl : decide ((lr.length : Int) > 0) = false) (h : (decide (n >= 0) && decide (n < (nr.length : Int))) = false) :
  stepJ (ev cfg) cfg (.call 35 [.agg [.dat N, .dat F], .agg [I 8, I n, I 0, .dat K, .dat L]] bx) = some (.ret (B (false)) none) := by
 obtain ⟨w1, h1, h2, h3⟩ := hN
 obtain ⟨w2, q1, q2, q3⟩ := hK
 obtain ⟨w3, l1, l2, l3⟩ := hL
 cases c0 : decide (n >= 0)
 ·simp (maxSteps := 2000000) only [go_sem, seval, h1, h3, hF, q1, q3, l1, l3, nat_neg, tnc, hl, c0]
 ·rw [c0, Bool.true_and] at h; simp (maxSteps := 2000000) only [go_sem, seval, h1, h3, hF, q1, q3, l1, l3, nat_neg, tnc, hl, h, c0]
theorem bright_8go (hN : IsS 5 nr N) (hF : F.oneC = true) (hK : IsS 5 rows K) (hL : IsS 3 lr L) (hl : decide ((lr.length : Int) > 0) = false) (hp : nr[p]? = some [dI kd, dI aa, dI op2, dI n2, K2]) (hv : ∀ bx : List Box, ev cfg (.call 29 [.dat (.sl 1 [[dI 5], [dI 6], [dI 7]]), I kd] bx) = some (.ret (B v) none)) :
  stepJ (ev cfg) cfg (.call 35 [.agg [.dat N, .dat F], .agg [I 8, I p, I 0, .dat K, .dat L]] bx) = some (.ret (B ((rows.length : Int) == 0 && v)) none) := by
 obtain ⟨w1, h1, h2, h3⟩ := hN
 obtain rfl := isS_w h2 hp
 obtain ⟨w2, q1, q2, q3⟩ := hK
 obtain ⟨w3, l1, l2, l3⟩ := hL
 have lp : p < nr.length := (gsi.1 hp).1
 have z1 : decide ((p : Int) >= 0) = true := dqt (by omega)
 have z2 : decide ((p : Int) < (nr.length : Int)) = true := dqt (by omega)
 cases c0 : ((rows.length : Int) == 0)
 ·simp (maxSteps := 2000000) only [go_sem, seval, h1, h3, hF, q1, q3, l1, l3, nat_neg, tnc, hl, hv, hp, lp, z1, z2, c0]
 ·simp (maxSteps := 2000000) only [go_sem, seval, h1, h3, hF, q1, q3, l1, l3, nat_neg, tnc, hl, hv, hp, lp, z1, z2, c0]
end
section
variable {bx : List Box} {nr lr rows : List (List D)} {N F K L : D} {n : Int} {v : Bool}
theorem bright_9  (hv : ∀ bx : List Box, ev cfg (.call 57 [.agg [.dat N, .dat F], .agg [I 9, I n, I 0, .dat K, .dat L]] bx) = some (.ret (B v) none)) (hN : IsS 5 nr N) (hF : F.oneC = true) (hK : IsS 5 rows K) (hL : IsS 3 lr L) :
  stepJ (ev cfg) cfg (.call 35 [.agg [.dat N, .dat F], .agg [I 9, I n, I 0, .dat K, .dat L]] bx) = some (.ret (B (n == 0 && (decide ((rows.length : Int) > 0) && v))) none) := by
 obtain ⟨w1, h1, h2, h3⟩ := hN
 obtain ⟨w2, q1, q2, q3⟩ := hK
 obtain ⟨w3, l1, l2, l3⟩ := hL
 cases c0 : decide ((lr.length : Int) > 0)
 ·cases c1 : decide (n >= 0)
  ·cases c2 : (n == 0)
   ·simp (maxSteps := 2000000) only [go_sem, seval, h1, h3, hF, q1, q3, l1, l3, nat_neg, tnc, hv, c0, c1, c2]
   ·cases c3 : decide ((rows.length : Int) > 0)
    ·simp (maxSteps := 2000000) only [go_sem, seval, h1, h3, hF, q1, q3, l1, l3, nat_neg, tnc, hv, c0, c1, c2, c3]
    ·simp (maxSteps := 2000000) only [go_sem, seval, h1, h3, hF, q1, q3, l1, l3, nat_neg, tnc, hv, c0, c1, c2, c3]
  ·cases c2 : (n == 0)
   ·simp (maxSteps := 2000000) only [go_sem, seval, h1, h3, hF, q1, q3, l1, l3, nat_neg, tnc, hv, c0, c1, c2]
   ·cases c3 : decide ((rows.length : Int) > 0)
    ·simp (maxSteps := 2000000) only [go_sem, seval, h1, h3, hF, q1, q3, l1, l3, nat_neg, tnc, hv, c0, c1, c2, c3]
    ·simp (maxSteps := 2000000) only [go_sem, seval, h1, h3, hF, q1, q3, l1, l3, nat_neg, tnc, hv, c0, c1, c2, c3]
 ·cases c1 : decide (n >= 0)
  ·cases c2 : (n == 0)
   ·simp (maxSteps := 2000000) only [go_sem, seval, h1, h3, hF, q1, q3, l1, l3, nat_neg, tnc, hv, c0, c1, c2]
   ·cases c3 : decide ((rows.length : Int) > 0)
    ·simp (maxSteps := 2000000) only [go_sem, seval, h1, h3, hF, q1, q3, l1, l3, nat_neg, tnc, hv, c0, c1, c2, c3]
    ·simp (maxSteps := 2000000) only [go_sem, seval, h1, h3, hF, q1, q3, l1, l3, nat_neg, tnc, hv, c0, c1, c2, c3]
  ·cases c2 : (n == 0)
   ·simp (maxSteps := 2000000) only [go_sem, seval, h1, h3, hF, q1, q3, l1, l3, nat_neg, tnc, hv, c0, c1, c2]
   ·cases c3 : decide ((rows.length : Int) > 0)
    ·simp (maxSteps := 2000000) only [go_sem, seval, h1, h3, hF, q1, q3, l1, l3, nat_neg, tnc, hv, c0, c1, c2, c3]
    ·simp (maxSteps := 2000000) only [go_sem, seval, h1, h3, hF, q1, q3, l1, l3, nat_neg, tnc, hv, c0, c1, c2, c3]
end
end Go.Proofs.YtifckjhggamefaaDoor
