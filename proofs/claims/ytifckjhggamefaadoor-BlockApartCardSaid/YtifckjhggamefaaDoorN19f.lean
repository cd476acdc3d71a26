/- Rounds of block.right: kind 9. No condition. -/
import Derived.Test.YtifckjhggamefaaDoorAt
import Derived.Test.YtifckjhggamefaaDoorB9
import Derived.Test.YtifckjhggamefaaDoorN12
set_option linter.unusedSimpArgs false
set_option linter.unusedVariables false
set_option linter.unusedSectionVars false
namespace Go.Proofs.YtifckjhggamefaaDoor
open Go Go.Vx
set_option maxHeartbeats 4000000
set_option maxRecDepth 10000

section
variable {bx : List Box} {nr lr rows : List (List D)} {N F K L K2 : D} {p : Nat} {k a n q op2 n2 kd aa : Int} {v : Bool}
theorem bright_9  (hv : ∀ bx : List Box, ev cfg (.call 57 [.agg [.dat N, .dat F], .agg [I 9, I n, I 0, .dat K, .dat L]] bx) = some (.ret (B v) none)) (hN : IsS 5 nr N) (hF : F.oneC = true) (hK : IsS 5 rows K) (hL : IsS 3 lr L) :
    stepJ (ev cfg) cfg (.call 35 [.agg [.dat N, .dat F], .agg [I 9, I n, I 0, .dat K, .dat L]] bx) = some (.ret (B (n == 0 && (decide ((rows.length : Int) > 0) && v))) none) := by
  obtain ⟨w1, h1, h2, h3⟩ := hN
  obtain ⟨w2, q1, q2, q3⟩ := hK
  obtain ⟨w3, l1, l2, l3⟩ := hL
  cases c0 : decide ((lr.length : Int) > 0)
  · cases c1 : decide (n ≥ 0)
    · cases c2 : (n == 0)
      · simp (maxSteps := 2000000) only [go_sem, Nat.reduceSub, Nat.reduceAdd, Nat.reduceMul, Nat.reduceLT, Nat.reduceLeDiff, Nat.reduceBEq, Nat.reduceEqDiff, Nat.reduceGT, Int.reduceToNat, Int.reduceLT, Int.reduceNeg, Int.reduceEq, Int.reduceBEq, Int.reduceBNe, Int.reduceLE, Int.reduceGT, Int.reduceGE, Int.reduceNe, Int.reduceAdd, Int.reduceSub, Int.reduceMul, reduceIte, ↓reduceIte, fn35, cx35, Tryd.f35, ti3, ti4, ti22, ti23, ti25, ti26, ti27, ti29, ti42, ti53, ti55, ti57, ti60, ti70, h1, h3, hF, q1, q3, l1, l3, nat_neg, Int.toNat_natCast, hv, c0, c1, c2]
      · cases c3 : decide ((rows.length : Int) > 0)
        · simp (maxSteps := 2000000) only [go_sem, Nat.reduceSub, Nat.reduceAdd, Nat.reduceMul, Nat.reduceLT, Nat.reduceLeDiff, Nat.reduceBEq, Nat.reduceEqDiff, Nat.reduceGT, Int.reduceToNat, Int.reduceLT, Int.reduceNeg, Int.reduceEq, Int.reduceBEq, Int.reduceBNe, Int.reduceLE, Int.reduceGT, Int.reduceGE, Int.reduceNe, Int.reduceAdd, Int.reduceSub, Int.reduceMul, reduceIte, ↓reduceIte, fn35, cx35, Tryd.f35, ti3, ti4, ti22, ti23, ti25, ti26, ti27, ti29, ti42, ti53, ti55, ti57, ti60, ti70, h1, h3, hF, q1, q3, l1, l3, nat_neg, Int.toNat_natCast, hv, c0, c1, c2, c3]
        · simp (maxSteps := 2000000) only [go_sem, Nat.reduceSub, Nat.reduceAdd, Nat.reduceMul, Nat.reduceLT, Nat.reduceLeDiff, Nat.reduceBEq, Nat.reduceEqDiff, Nat.reduceGT, Int.reduceToNat, Int.reduceLT, Int.reduceNeg, Int.reduceEq, Int.reduceBEq, Int.reduceBNe, Int.reduceLE, Int.reduceGT, Int.reduceGE, Int.reduceNe, Int.reduceAdd, Int.reduceSub, Int.reduceMul, reduceIte, ↓reduceIte, fn35, cx35, Tryd.f35, ti3, ti4, ti22, ti23, ti25, ti26, ti27, ti29, ti42, ti53, ti55, ti57, ti60, ti70, h1, h3, hF, q1, q3, l1, l3, nat_neg, Int.toNat_natCast, hv, c0, c1, c2, c3]
    · cases c2 : (n == 0)
      · simp (maxSteps := 2000000) only [go_sem, Nat.reduceSub, Nat.reduceAdd, Nat.reduceMul, Nat.reduceLT, Nat.reduceLeDiff, Nat.reduceBEq, Nat.reduceEqDiff, Nat.reduceGT, Int.reduceToNat, Int.reduceLT, Int.reduceNeg, Int.reduceEq, Int.reduceBEq, Int.reduceBNe, Int.reduceLE, Int.reduceGT, Int.reduceGE, Int.reduceNe, Int.reduceAdd, Int.reduceSub, Int.reduceMul, reduceIte, ↓reduceIte, fn35, cx35, Tryd.f35, ti3, ti4, ti22, ti23, ti25, ti26, ti27, ti29, ti42, ti53, ti55, ti57, ti60, ti70, h1, h3, hF, q1, q3, l1, l3, nat_neg, Int.toNat_natCast, hv, c0, c1, c2]
      · cases c3 : decide ((rows.length : Int) > 0)
        · simp (maxSteps := 2000000) only [go_sem, Nat.reduceSub, Nat.reduceAdd, Nat.reduceMul, Nat.reduceLT, Nat.reduceLeDiff, Nat.reduceBEq, Nat.reduceEqDiff, Nat.reduceGT, Int.reduceToNat, Int.reduceLT, Int.reduceNeg, Int.reduceEq, Int.reduceBEq, Int.reduceBNe, Int.reduceLE, Int.reduceGT, Int.reduceGE, Int.reduceNe, Int.reduceAdd, Int.reduceSub, Int.reduceMul, reduceIte, ↓reduceIte, fn35, cx35, Tryd.f35, ti3, ti4, ti22, ti23, ti25, ti26, ti27, ti29, ti42, ti53, ti55, ti57, ti60, ti70, h1, h3, hF, q1, q3, l1, l3, nat_neg, Int.toNat_natCast, hv, c0, c1, c2, c3]
        · simp (maxSteps := 2000000) only [go_sem, Nat.reduceSub, Nat.reduceAdd, Nat.reduceMul, Nat.reduceLT, Nat.reduceLeDiff, Nat.reduceBEq, Nat.reduceEqDiff, Nat.reduceGT, Int.reduceToNat, Int.reduceLT, Int.reduceNeg, Int.reduceEq, Int.reduceBEq, Int.reduceBNe, Int.reduceLE, Int.reduceGT, Int.reduceGE, Int.reduceNe, Int.reduceAdd, Int.reduceSub, Int.reduceMul, reduceIte, ↓reduceIte, fn35, cx35, Tryd.f35, ti3, ti4, ti22, ti23, ti25, ti26, ti27, ti29, ti42, ti53, ti55, ti57, ti60, ti70, h1, h3, hF, q1, q3, l1, l3, nat_neg, Int.toNat_natCast, hv, c0, c1, c2, c3]
  · cases c1 : decide (n ≥ 0)
    · cases c2 : (n == 0)
      · simp (maxSteps := 2000000) only [go_sem, Nat.reduceSub, Nat.reduceAdd, Nat.reduceMul, Nat.reduceLT, Nat.reduceLeDiff, Nat.reduceBEq, Nat.reduceEqDiff, Nat.reduceGT, Int.reduceToNat, Int.reduceLT, Int.reduceNeg, Int.reduceEq, Int.reduceBEq, Int.reduceBNe, Int.reduceLE, Int.reduceGT, Int.reduceGE, Int.reduceNe, Int.reduceAdd, Int.reduceSub, Int.reduceMul, reduceIte, ↓reduceIte, fn35, cx35, Tryd.f35, ti3, ti4, ti22, ti23, ti25, ti26, ti27, ti29, ti42, ti53, ti55, ti57, ti60, ti70, h1, h3, hF, q1, q3, l1, l3, nat_neg, Int.toNat_natCast, hv, c0, c1, c2]
      · cases c3 : decide ((rows.length : Int) > 0)
        · simp (maxSteps := 2000000) only [go_sem, Nat.reduceSub, Nat.reduceAdd, Nat.reduceMul, Nat.reduceLT, Nat.reduceLeDiff, Nat.reduceBEq, Nat.reduceEqDiff, Nat.reduceGT, Int.reduceToNat, Int.reduceLT, Int.reduceNeg, Int.reduceEq, Int.reduceBEq, Int.reduceBNe, Int.reduceLE, Int.reduceGT, Int.reduceGE, Int.reduceNe, Int.reduceAdd, Int.reduceSub, Int.reduceMul, reduceIte, ↓reduceIte, fn35, cx35, Tryd.f35, ti3, ti4, ti22, ti23, ti25, ti26, ti27, ti29, ti42, ti53, ti55, ti57, ti60, ti70, h1, h3, hF, q1, q3, l1, l3, nat_neg, Int.toNat_natCast, hv, c0, c1, c2, c3]
        · simp (maxSteps := 2000000) only [go_sem, Nat.reduceSub, Nat.reduceAdd, Nat.reduceMul, Nat.reduceLT, Nat.reduceLeDiff, Nat.reduceBEq, Nat.reduceEqDiff, Nat.reduceGT, Int.reduceToNat, Int.reduceLT, Int.reduceNeg, Int.reduceEq, Int.reduceBEq, Int.reduceBNe, Int.reduceLE, Int.reduceGT, Int.reduceGE, Int.reduceNe, Int.reduceAdd, Int.reduceSub, Int.reduceMul, reduceIte, ↓reduceIte, fn35, cx35, Tryd.f35, ti3, ti4, ti22, ti23, ti25, ti26, ti27, ti29, ti42, ti53, ti55, ti57, ti60, ti70, h1, h3, hF, q1, q3, l1, l3, nat_neg, Int.toNat_natCast, hv, c0, c1, c2, c3]
    · cases c2 : (n == 0)
      · simp (maxSteps := 2000000) only [go_sem, Nat.reduceSub, Nat.reduceAdd, Nat.reduceMul, Nat.reduceLT, Nat.reduceLeDiff, Nat.reduceBEq, Nat.reduceEqDiff, Nat.reduceGT, Int.reduceToNat, Int.reduceLT, Int.reduceNeg, Int.reduceEq, Int.reduceBEq, Int.reduceBNe, Int.reduceLE, Int.reduceGT, Int.reduceGE, Int.reduceNe, Int.reduceAdd, Int.reduceSub, Int.reduceMul, reduceIte, ↓reduceIte, fn35, cx35, Tryd.f35, ti3, ti4, ti22, ti23, ti25, ti26, ti27, ti29, ti42, ti53, ti55, ti57, ti60, ti70, h1, h3, hF, q1, q3, l1, l3, nat_neg, Int.toNat_natCast, hv, c0, c1, c2]
      · cases c3 : decide ((rows.length : Int) > 0)
        · simp (maxSteps := 2000000) only [go_sem, Nat.reduceSub, Nat.reduceAdd, Nat.reduceMul, Nat.reduceLT, Nat.reduceLeDiff, Nat.reduceBEq, Nat.reduceEqDiff, Nat.reduceGT, Int.reduceToNat, Int.reduceLT, Int.reduceNeg, Int.reduceEq, Int.reduceBEq, Int.reduceBNe, Int.reduceLE, Int.reduceGT, Int.reduceGE, Int.reduceNe, Int.reduceAdd, Int.reduceSub, Int.reduceMul, reduceIte, ↓reduceIte, fn35, cx35, Tryd.f35, ti3, ti4, ti22, ti23, ti25, ti26, ti27, ti29, ti42, ti53, ti55, ti57, ti60, ti70, h1, h3, hF, q1, q3, l1, l3, nat_neg, Int.toNat_natCast, hv, c0, c1, c2, c3]
        · simp (maxSteps := 2000000) only [go_sem, Nat.reduceSub, Nat.reduceAdd, Nat.reduceMul, Nat.reduceLT, Nat.reduceLeDiff, Nat.reduceBEq, Nat.reduceEqDiff, Nat.reduceGT, Int.reduceToNat, Int.reduceLT, Int.reduceNeg, Int.reduceEq, Int.reduceBEq, Int.reduceBNe, Int.reduceLE, Int.reduceGT, Int.reduceGE, Int.reduceNe, Int.reduceAdd, Int.reduceSub, Int.reduceMul, reduceIte, ↓reduceIte, fn35, cx35, Tryd.f35, ti3, ti4, ti22, ti23, ti25, ti26, ti27, ti29, ti42, ti53, ti55, ti57, ti60, ti70, h1, h3, hF, q1, q3, l1, l3, nat_neg, Int.toNat_natCast, hv, c0, c1, c2, c3]
end

end Go.Proofs.YtifckjhggamefaaDoor
