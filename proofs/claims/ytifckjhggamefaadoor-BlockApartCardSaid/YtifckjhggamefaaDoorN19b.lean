/- Rounds of block.right: kinds 3, 4, 5, 6, others. No condition. -/
import Derived.Test.YtifckjhggamefaaDoorAt
import Derived.Test.YtifckjhggamefaaDoorB9
import Derived.Test.YtifckjhggamefaaDoorN12
set_option linter.unusedSimpArgs false
set_option linter.unusedVariables false
set_option linter.unusedSectionVars false
namespace Go.Proofs.YtifckjhggamefaaDoor
open Go Go.Vx
set_option maxHeartbeats 4000000
set_option maxRecDepth 10000

section
variable {bx : List Box} {nr lr rows : List (List D)} {N F K L K2 : D} {p : Nat} {k a n q op2 n2 kd aa : Int} {v : Bool}
theorem bright_3 (hN : IsS 5 nr N) (hF : F.oneC = true) (hK : IsS 5 rows K) (hL : IsS 3 lr L) (hl : decide ((lr.length : Int) > 0) = false) (hv : ∀ bx : List Box, ev cfg (.call 36 [.dat K, .clo 55 []] bx) = some (.ret (B v) none)) :
    stepJ (ev cfg) cfg (.call 35 [.agg [.dat N, .dat F], .agg [I 3, I n, I 0, .dat K, .dat L]] bx) = some (.ret (B (n == 0 && (decide ((rows.length : Int) > 1) && !v))) none) := by
  obtain ⟨w1, h1, h2, h3⟩ := hN
  obtain ⟨w2, q1, q2, q3⟩ := hK
  obtain ⟨w3, l1, l2, l3⟩ := hL
  cases c0 : decide (n ≥ 0)
  · cases c1 : (n == 0)
    · simp (maxSteps := 2000000) only [go_sem, Nat.reduceSub, Nat.reduceAdd, Nat.reduceMul, Nat.reduceLT, Nat.reduceLeDiff, Nat.reduceBEq, Nat.reduceEqDiff, Nat.reduceGT, Int.reduceToNat, Int.reduceLT, Int.reduceNeg, Int.reduceEq, Int.reduceBEq, Int.reduceBNe, Int.reduceLE, Int.reduceGT, Int.reduceGE, Int.reduceNe, Int.reduceAdd, Int.reduceSub, Int.reduceMul, reduceIte, ↓reduceIte, fn35, cx35, Tryd.f35, ti3, ti4, ti22, ti23, ti25, ti26, ti27, ti29, ti42, ti53, ti55, ti57, ti60, ti70, h1, h3, hF, q1, q3, l1, l3, nat_neg, Int.toNat_natCast, hl, hv, c0, c1]
    · cases c2 : decide ((rows.length : Int) > 1)
      · simp (maxSteps := 2000000) only [go_sem, Nat.reduceSub, Nat.reduceAdd, Nat.reduceMul, Nat.reduceLT, Nat.reduceLeDiff, Nat.reduceBEq, Nat.reduceEqDiff, Nat.reduceGT, Int.reduceToNat, Int.reduceLT, Int.reduceNeg, Int.reduceEq, Int.reduceBEq, Int.reduceBNe, Int.reduceLE, Int.reduceGT, Int.reduceGE, Int.reduceNe, Int.reduceAdd, Int.reduceSub, Int.reduceMul, reduceIte, ↓reduceIte, fn35, cx35, Tryd.f35, ti3, ti4, ti22, ti23, ti25, ti26, ti27, ti29, ti42, ti53, ti55, ti57, ti60, ti70, h1, h3, hF, q1, q3, l1, l3, nat_neg, Int.toNat_natCast, hl, hv, c0, c1, c2]
      · simp (maxSteps := 2000000) only [go_sem, Nat.reduceSub, Nat.reduceAdd, Nat.reduceMul, Nat.reduceLT, Nat.reduceLeDiff, Nat.reduceBEq, Nat.reduceEqDiff, Nat.reduceGT, Int.reduceToNat, Int.reduceLT, Int.reduceNeg, Int.reduceEq, Int.reduceBEq, Int.reduceBNe, Int.reduceLE, Int.reduceGT, Int.reduceGE, Int.reduceNe, Int.reduceAdd, Int.reduceSub, Int.reduceMul, reduceIte, ↓reduceIte, fn35, cx35, Tryd.f35, ti3, ti4, ti22, ti23, ti25, ti26, ti27, ti29, ti42, ti53, ti55, ti57, ti60, ti70, h1, h3, hF, q1, q3, l1, l3, nat_neg, Int.toNat_natCast, hl, hv, c0, c1, c2]
  · cases c1 : (n == 0)
    · simp (maxSteps := 2000000) only [go_sem, Nat.reduceSub, Nat.reduceAdd, Nat.reduceMul, Nat.reduceLT, Nat.reduceLeDiff, Nat.reduceBEq, Nat.reduceEqDiff, Nat.reduceGT, Int.reduceToNat, Int.reduceLT, Int.reduceNeg, Int.reduceEq, Int.reduceBEq, Int.reduceBNe, Int.reduceLE, Int.reduceGT, Int.reduceGE, Int.reduceNe, Int.reduceAdd, Int.reduceSub, Int.reduceMul, reduceIte, ↓reduceIte, fn35, cx35, Tryd.f35, ti3, ti4, ti22, ti23, ti25, ti26, ti27, ti29, ti42, ti53, ti55, ti57, ti60, ti70, h1, h3, hF, q1, q3, l1, l3, nat_neg, Int.toNat_natCast, hl, hv, c0, c1]
    · cases c2 : decide ((rows.length : Int) > 1)
      · simp (maxSteps := 2000000) only [go_sem, Nat.reduceSub, Nat.reduceAdd, Nat.reduceMul, Nat.reduceLT, Nat.reduceLeDiff, Nat.reduceBEq, Nat.reduceEqDiff, Nat.reduceGT, Int.reduceToNat, Int.reduceLT, Int.reduceNeg, Int.reduceEq, Int.reduceBEq, Int.reduceBNe, Int.reduceLE, Int.reduceGT, Int.reduceGE, Int.reduceNe, Int.reduceAdd, Int.reduceSub, Int.reduceMul, reduceIte, ↓reduceIte, fn35, cx35, Tryd.f35, ti3, ti4, ti22, ti23, ti25, ti26, ti27, ti29, ti42, ti53, ti55, ti57, ti60, ti70, h1, h3, hF, q1, q3, l1, l3, nat_neg, Int.toNat_natCast, hl, hv, c0, c1, c2]
      · simp (maxSteps := 2000000) only [go_sem, Nat.reduceSub, Nat.reduceAdd, Nat.reduceMul, Nat.reduceLT, Nat.reduceLeDiff, Nat.reduceBEq, Nat.reduceEqDiff, Nat.reduceGT, Int.reduceToNat, Int.reduceLT, Int.reduceNeg, Int.reduceEq, Int.reduceBEq, Int.reduceBNe, Int.reduceLE, Int.reduceGT, Int.reduceGE, Int.reduceNe, Int.reduceAdd, Int.reduceSub, Int.reduceMul, reduceIte, ↓reduceIte, fn35, cx35, Tryd.f35, ti3, ti4, ti22, ti23, ti25, ti26, ti27, ti29, ti42, ti53, ti55, ti57, ti60, ti70, h1, h3, hF, q1, q3, l1, l3, nat_neg, Int.toNat_natCast, hl, hv, c0, c1, c2]
theorem bright_4 (hN : IsS 5 nr N) (hF : F.oneC = true) (hK : IsS 5 rows K) (hL : IsS 3 lr L) (hl : decide ((lr.length : Int) > 0) = false) (hv : ∀ bx : List Box, ev cfg (.call 56 [.agg [.dat N, .dat F], I n, I 6, I rows.length] bx) = some (.ret (B v) none)) :
    stepJ (ev cfg) cfg (.call 35 [.agg [.dat N, .dat F], .agg [I 4, I n, I 0, .dat K, .dat L]] bx) = some (.ret (B (v)) none) := by
  obtain ⟨w1, h1, h2, h3⟩ := hN
  obtain ⟨w2, q1, q2, q3⟩ := hK
  obtain ⟨w3, l1, l2, l3⟩ := hL
  cases c0 : decide (n ≥ 0)
  · simp (maxSteps := 2000000) only [go_sem, Nat.reduceSub, Nat.reduceAdd, Nat.reduceMul, Nat.reduceLT, Nat.reduceLeDiff, Nat.reduceBEq, Nat.reduceEqDiff, Nat.reduceGT, Int.reduceToNat, Int.reduceLT, Int.reduceNeg, Int.reduceEq, Int.reduceBEq, Int.reduceBNe, Int.reduceLE, Int.reduceGT, Int.reduceGE, Int.reduceNe, Int.reduceAdd, Int.reduceSub, Int.reduceMul, reduceIte, ↓reduceIte, fn35, cx35, Tryd.f35, ti3, ti4, ti22, ti23, ti25, ti26, ti27, ti29, ti42, ti53, ti55, ti57, ti60, ti70, h1, h3, hF, q1, q3, l1, l3, nat_neg, Int.toNat_natCast, hl, hv, c0]
  · simp (maxSteps := 2000000) only [go_sem, Nat.reduceSub, Nat.reduceAdd, Nat.reduceMul, Nat.reduceLT, Nat.reduceLeDiff, Nat.reduceBEq, Nat.reduceEqDiff, Nat.reduceGT, Int.reduceToNat, Int.reduceLT, Int.reduceNeg, Int.reduceEq, Int.reduceBEq, Int.reduceBNe, Int.reduceLE, Int.reduceGT, Int.reduceGE, Int.reduceNe, Int.reduceAdd, Int.reduceSub, Int.reduceMul, reduceIte, ↓reduceIte, fn35, cx35, Tryd.f35, ti3, ti4, ti22, ti23, ti25, ti26, ti27, ti29, ti42, ti53, ti55, ti57, ti60, ti70, h1, h3, hF, q1, q3, l1, l3, nat_neg, Int.toNat_natCast, hl, hv, c0]
theorem bright_5 (hN : IsS 5 nr N) (hF : F.oneC = true) (hK : IsS 5 rows K) (hL : IsS 3 lr L) (hl : decide ((lr.length : Int) > 0) = false) (hv : ∀ bx : List Box, ev cfg (.call 56 [.agg [.dat N, .dat F], I n, I 5, I rows.length] bx) = some (.ret (B v) none)) :
    stepJ (ev cfg) cfg (.call 35 [.agg [.dat N, .dat F], .agg [I 5, I n, I 0, .dat K, .dat L]] bx) = some (.ret (B (v)) none) := by
  obtain ⟨w1, h1, h2, h3⟩ := hN
  obtain ⟨w2, q1, q2, q3⟩ := hK
  obtain ⟨w3, l1, l2, l3⟩ := hL
  cases c0 : decide (n ≥ 0)
  · simp (maxSteps := 2000000) only [go_sem, Nat.reduceSub, Nat.reduceAdd, Nat.reduceMul, Nat.reduceLT, Nat.reduceLeDiff, Nat.reduceBEq, Nat.reduceEqDiff, Nat.reduceGT, Int.reduceToNat, Int.reduceLT, Int.reduceNeg, Int.reduceEq, Int.reduceBEq, Int.reduceBNe, Int.reduceLE, Int.reduceGT, Int.reduceGE, Int.reduceNe, Int.reduceAdd, Int.reduceSub, Int.reduceMul, reduceIte, ↓reduceIte, fn35, cx35, Tryd.f35, ti3, ti4, ti22, ti23, ti25, ti26, ti27, ti29, ti42, ti53, ti55, ti57, ti60, ti70, h1, h3, hF, q1, q3, l1, l3, nat_neg, Int.toNat_natCast, hl, hv, c0]
  · simp (maxSteps := 2000000) only [go_sem, Nat.reduceSub, Nat.reduceAdd, Nat.reduceMul, Nat.reduceLT, Nat.reduceLeDiff, Nat.reduceBEq, Nat.reduceEqDiff, Nat.reduceGT, Int.reduceToNat, Int.reduceLT, Int.reduceNeg, Int.reduceEq, Int.reduceBEq, Int.reduceBNe, Int.reduceLE, Int.reduceGT, Int.reduceGE, Int.reduceNe, Int.reduceAdd, Int.reduceSub, Int.reduceMul, reduceIte, ↓reduceIte, fn35, cx35, Tryd.f35, ti3, ti4, ti22, ti23, ti25, ti26, ti27, ti29, ti42, ti53, ti55, ti57, ti60, ti70, h1, h3, hF, q1, q3, l1, l3, nat_neg, Int.toNat_natCast, hl, hv, c0]
theorem bright_6 (hN : IsS 5 nr N) (hF : F.oneC = true) (hK : IsS 5 rows K) (hL : IsS 3 lr L) (hl : decide ((lr.length : Int) > 0) = false) (hv : ∀ bx : List Box, ev cfg (.call 56 [.agg [.dat N, .dat F], I n, I 7, I rows.length] bx) = some (.ret (B v) none)) :
    stepJ (ev cfg) cfg (.call 35 [.agg [.dat N, .dat F], .agg [I 6, I n, I 0, .dat K, .dat L]] bx) = some (.ret (B (v)) none) := by
  obtain ⟨w1, h1, h2, h3⟩ := hN
  obtain ⟨w2, q1, q2, q3⟩ := hK
  obtain ⟨w3, l1, l2, l3⟩ := hL
  cases c0 : decide (n ≥ 0)
  · simp (maxSteps := 2000000) only [go_sem, Nat.reduceSub, Nat.reduceAdd, Nat.reduceMul, Nat.reduceLT, Nat.reduceLeDiff, Nat.reduceBEq, Nat.reduceEqDiff, Nat.reduceGT, Int.reduceToNat, Int.reduceLT, Int.reduceNeg, Int.reduceEq, Int.reduceBEq, Int.reduceBNe, Int.reduceLE, Int.reduceGT, Int.reduceGE, Int.reduceNe, Int.reduceAdd, Int.reduceSub, Int.reduceMul, reduceIte, ↓reduceIte, fn35, cx35, Tryd.f35, ti3, ti4, ti22, ti23, ti25, ti26, ti27, ti29, ti42, ti53, ti55, ti57, ti60, ti70, h1, h3, hF, q1, q3, l1, l3, nat_neg, Int.toNat_natCast, hl, hv, c0]
  · simp (maxSteps := 2000000) only [go_sem, Nat.reduceSub, Nat.reduceAdd, Nat.reduceMul, Nat.reduceLT, Nat.reduceLeDiff, Nat.reduceBEq, Nat.reduceEqDiff, Nat.reduceGT, Int.reduceToNat, Int.reduceLT, Int.reduceNeg, Int.reduceEq, Int.reduceBEq, Int.reduceBNe, Int.reduceLE, Int.reduceGT, Int.reduceGE, Int.reduceNe, Int.reduceAdd, Int.reduceSub, Int.reduceMul, reduceIte, ↓reduceIte, fn35, cx35, Tryd.f35, ti3, ti4, ti22, ti23, ti25, ti26, ti27, ti29, ti42, ti53, ti55, ti57, ti60, ti70, h1, h3, hF, q1, q3, l1, l3, nat_neg, Int.toNat_natCast, hl, hv, c0]
theorem bright_o (hN : IsS 5 nr N) (hF : F.oneC = true) (hK : IsS 5 rows K) (hL : IsS 3 lr L) (hl : decide ((lr.length : Int) > 0) = false) (k1 : (k == 1) = false) (k10 : (k == 10) = false) (k2 : (k == 2) = false) (k8 : (k == 8) = false) (k3 : (k == 3) = false) (k4 : (k == 4) = false) (k5 : (k == 5) = false) (k6 : (k == 6) = false) (k7 : (k == 7) = false) (k9 : (k == 9) = false) :
    stepJ (ev cfg) cfg (.call 35 [.agg [.dat N, .dat F], .agg [I k, I n, I 0, .dat K, .dat L]] bx) = some (.ret (B (false)) none) := by
  obtain ⟨w1, h1, h2, h3⟩ := hN
  obtain ⟨w2, q1, q2, q3⟩ := hK
  obtain ⟨w3, l1, l2, l3⟩ := hL
  cases c0 : decide (n ≥ 0)
  · simp (maxSteps := 2000000) only [go_sem, Nat.reduceSub, Nat.reduceAdd, Nat.reduceMul, Nat.reduceLT, Nat.reduceLeDiff, Nat.reduceBEq, Nat.reduceEqDiff, Nat.reduceGT, Int.reduceToNat, Int.reduceLT, Int.reduceNeg, Int.reduceEq, Int.reduceBEq, Int.reduceBNe, Int.reduceLE, Int.reduceGT, Int.reduceGE, Int.reduceNe, Int.reduceAdd, Int.reduceSub, Int.reduceMul, reduceIte, ↓reduceIte, fn35, cx35, Tryd.f35, ti3, ti4, ti22, ti23, ti25, ti26, ti27, ti29, ti42, ti53, ti55, ti57, ti60, ti70, h1, h3, hF, q1, q3, l1, l3, nat_neg, Int.toNat_natCast, hl, k1, k10, k2, k8, k3, k4, k5, k6, k7, k9, c0]
  · simp (maxSteps := 2000000) only [go_sem, Nat.reduceSub, Nat.reduceAdd, Nat.reduceMul, Nat.reduceLT, Nat.reduceLeDiff, Nat.reduceBEq, Nat.reduceEqDiff, Nat.reduceGT, Int.reduceToNat, Int.reduceLT, Int.reduceNeg, Int.reduceEq, Int.reduceBEq, Int.reduceBNe, Int.reduceLE, Int.reduceGT, Int.reduceGE, Int.reduceNe, Int.reduceAdd, Int.reduceSub, Int.reduceMul, reduceIte, ↓reduceIte, fn35, cx35, Tryd.f35, ti3, ti4, ti22, ti23, ti25, ti26, ti27, ti29, ti42, ti53, ti55, ti57, ti60, ti70, h1, h3, hF, q1, q3, l1, l3, nat_neg, Int.toNat_natCast, hl, k1, k10, k2, k8, k3, k4, k5, k6, k7, k9, c0]
end

end Go.Proofs.YtifckjhggamefaaDoor
