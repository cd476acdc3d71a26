/- Rounds of block.right: kinds 1, 10. No condition. -/
import Derived.Test.YtifckjhggamefaaDoorAt
import Derived.Test.YtifckjhggamefaaDoorB9
import Derived.Test.YtifckjhggamefaaDoorN12
set_option linter.unusedSimpArgs false
set_option linter.unusedVariables false
set_option linter.unusedSectionVars false
namespace Go.Proofs.YtifckjhggamefaaDoor
open Go Go.Vx
set_option maxHeartbeats 4000000
set_option maxRecDepth 10000

section
variable {bx : List Box} {nr lr rows : List (List D)} {N F K L K2 : D} {p : Nat} {k a n q op2 n2 kd aa : Int} {v : Bool}
theorem bright_1 (hN : IsS 5 nr N) (hF : F.oneC = true) (hK : IsS 5 rows K) (hL : IsS 3 lr L) (hl : decide ((lr.length : Int) > 0) = false) :
    stepJ (ev cfg) cfg (.call 35 [.agg [.dat N, .dat F], .agg [I 1, I n, I 0, .dat K, .dat L]] bx) = some (.ret (B (n == 0 && (rows.length : Int) == 0)) none) := by
  obtain ⟨w1, h1, h2, h3⟩ := hN
  obtain ⟨w2, q1, q2, q3⟩ := hK
  obtain ⟨w3, l1, l2, l3⟩ := hL
  cases c0 : decide (n ≥ 0)
  · cases c1 : (n == 0)
    · simp (maxSteps := 2000000) only [go_sem, Nat.reduceSub, Nat.reduceAdd, Nat.reduceMul, Nat.reduceLT, Nat.reduceLeDiff, Nat.reduceBEq, Nat.reduceEqDiff, Nat.reduceGT, Int.reduceToNat, Int.reduceLT, Int.reduceNeg, Int.reduceEq, Int.reduceBEq, Int.reduceBNe, Int.reduceLE, Int.reduceGT, Int.reduceGE, Int.reduceNe, Int.reduceAdd, Int.reduceSub, Int.reduceMul, reduceIte, ↓reduceIte, fn35, cx35, Tryd.f35, ti3, ti4, ti22, ti23, ti25, ti26, ti27, ti29, ti42, ti53, ti55, ti57, ti60, ti70, h1, h3, hF, q1, q3, l1, l3, nat_neg, Int.toNat_natCast, hl, c0, c1]
    · simp (maxSteps := 2000000) only [go_sem, Nat.reduceSub, Nat.reduceAdd, Nat.reduceMul, Nat.reduceLT, Nat.reduceLeDiff, Nat.reduceBEq, Nat.reduceEqDiff, Nat.reduceGT, Int.reduceToNat, Int.reduceLT, Int.reduceNeg, Int.reduceEq, Int.reduceBEq, Int.reduceBNe, Int.reduceLE, Int.reduceGT, Int.reduceGE, Int.reduceNe, Int.reduceAdd, Int.reduceSub, Int.reduceMul, reduceIte, ↓reduceIte, fn35, cx35, Tryd.f35, ti3, ti4, ti22, ti23, ti25, ti26, ti27, ti29, ti42, ti53, ti55, ti57, ti60, ti70, h1, h3, hF, q1, q3, l1, l3, nat_neg, Int.toNat_natCast, hl, c0, c1]
  · cases c1 : (n == 0)
    · simp (maxSteps := 2000000) only [go_sem, Nat.reduceSub, Nat.reduceAdd, Nat.reduceMul, Nat.reduceLT, Nat.reduceLeDiff, Nat.reduceBEq, Nat.reduceEqDiff, Nat.reduceGT, Int.reduceToNat, Int.reduceLT, Int.reduceNeg, Int.reduceEq, Int.reduceBEq, Int.reduceBNe, Int.reduceLE, Int.reduceGT, Int.reduceGE, Int.reduceNe, Int.reduceAdd, Int.reduceSub, Int.reduceMul, reduceIte, ↓reduceIte, fn35, cx35, Tryd.f35, ti3, ti4, ti22, ti23, ti25, ti26, ti27, ti29, ti42, ti53, ti55, ti57, ti60, ti70, h1, h3, hF, q1, q3, l1, l3, nat_neg, Int.toNat_natCast, hl, c0, c1]
    · simp (maxSteps := 2000000) only [go_sem, Nat.reduceSub, Nat.reduceAdd, Nat.reduceMul, Nat.reduceLT, Nat.reduceLeDiff, Nat.reduceBEq, Nat.reduceEqDiff, Nat.reduceGT, Int.reduceToNat, Int.reduceLT, Int.reduceNeg, Int.reduceEq, Int.reduceBEq, Int.reduceBNe, Int.reduceLE, Int.reduceGT, Int.reduceGE, Int.reduceNe, Int.reduceAdd, Int.reduceSub, Int.reduceMul, reduceIte, ↓reduceIte, fn35, cx35, Tryd.f35, ti3, ti4, ti22, ti23, ti25, ti26, ti27, ti29, ti42, ti53, ti55, ti57, ti60, ti70, h1, h3, hF, q1, q3, l1, l3, nat_neg, Int.toNat_natCast, hl, c0, c1]
theorem bright_10 (hN : IsS 5 nr N) (hF : F.oneC = true) (hK : IsS 5 rows K) (hL : IsS 3 lr L) (hl : decide ((lr.length : Int) > 0) = false) :
    stepJ (ev cfg) cfg (.call 35 [.agg [.dat N, .dat F], .agg [I 10, I n, I 0, .dat K, .dat L]] bx) = some (.ret (B (n == 0 && (rows.length : Int) == 0)) none) := by
  obtain ⟨w1, h1, h2, h3⟩ := hN
  obtain ⟨w2, q1, q2, q3⟩ := hK
  obtain ⟨w3, l1, l2, l3⟩ := hL
  cases c0 : decide (n ≥ 0)
  · cases c1 : (n == 0)
    · simp (maxSteps := 2000000) only [go_sem, Nat.reduceSub, Nat.reduceAdd, Nat.reduceMul, Nat.reduceLT, Nat.reduceLeDiff, Nat.reduceBEq, Nat.reduceEqDiff, Nat.reduceGT, Int.reduceToNat, Int.reduceLT, Int.reduceNeg, Int.reduceEq, Int.reduceBEq, Int.reduceBNe, Int.reduceLE, Int.reduceGT, Int.reduceGE, Int.reduceNe, Int.reduceAdd, Int.reduceSub, Int.reduceMul, reduceIte, ↓reduceIte, fn35, cx35, Tryd.f35, ti3, ti4, ti22, ti23, ti25, ti26, ti27, ti29, ti42, ti53, ti55, ti57, ti60, ti70, h1, h3, hF, q1, q3, l1, l3, nat_neg, Int.toNat_natCast, hl, c0, c1]
    · simp (maxSteps := 2000000) only [go_sem, Nat.reduceSub, Nat.reduceAdd, Nat.reduceMul, Nat.reduceLT, Nat.reduceLeDiff, Nat.reduceBEq, Nat.reduceEqDiff, Nat.reduceGT, Int.reduceToNat, Int.reduceLT, Int.reduceNeg, Int.reduceEq, Int.reduceBEq, Int.reduceBNe, Int.reduceLE, Int.reduceGT, Int.reduceGE, Int.reduceNe, Int.reduceAdd, Int.reduceSub, Int.reduceMul, reduceIte, ↓reduceIte, fn35, cx35, Tryd.f35, ti3, ti4, ti22, ti23, ti25, ti26, ti27, ti29, ti42, ti53, ti55, ti57, ti60, ti70, h1, h3, hF, q1, q3, l1, l3, nat_neg, Int.toNat_natCast, hl, c0, c1]
  · cases c1 : (n == 0)
    · simp (maxSteps := 2000000) only [go_sem, Nat.reduceSub, Nat.reduceAdd, Nat.reduceMul, Nat.reduceLT, Nat.reduceLeDiff, Nat.reduceBEq, Nat.reduceEqDiff, Nat.reduceGT, Int.reduceToNat, Int.reduceLT, Int.reduceNeg, Int.reduceEq, Int.reduceBEq, Int.reduceBNe, Int.reduceLE, Int.reduceGT, Int.reduceGE, Int.reduceNe, Int.reduceAdd, Int.reduceSub, Int.reduceMul, reduceIte, ↓reduceIte, fn35, cx35, Tryd.f35, ti3, ti4, ti22, ti23, ti25, ti26, ti27, ti29, ti42, ti53, ti55, ti57, ti60, ti70, h1, h3, hF, q1, q3, l1, l3, nat_neg, Int.toNat_natCast, hl, c0, c1]
    · simp (maxSteps := 2000000) only [go_sem, Nat.reduceSub, Nat.reduceAdd, Nat.reduceMul, Nat.reduceLT, Nat.reduceLeDiff, Nat.reduceBEq, Nat.reduceEqDiff, Nat.reduceGT, Int.reduceToNat, Int.reduceLT, Int.reduceNeg, Int.reduceEq, Int.reduceBEq, Int.reduceBNe, Int.reduceLE, Int.reduceGT, Int.reduceGE, Int.reduceNe, Int.reduceAdd, Int.reduceSub, Int.reduceMul, reduceIte, ↓reduceIte, fn35, cx35, Tryd.f35, ti3, ti4, ti22, ti23, ti25, ti26, ti27, ti29, ti42, ti53, ti55, ti57, ti60, ti70, h1, h3, hF, q1, q3, l1, l3, nat_neg, Int.toNat_natCast, hl, c0, c1]
end

end Go.Proofs.YtifckjhggamefaaDoor
