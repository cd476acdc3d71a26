/- Rounds of block.right: what is wrong in its head; kinds 1, 10, 2, 8. No condition. -/
import Derived.Test.YtifckjhggamefaaDoorAt
import Derived.Test.YtifckjhggamefaaDoorB9
import Derived.Test.YtifckjhggamefaaDoorN12
set_option linter.unusedSimpArgs false
set_option linter.unusedVariables false
set_option linter.unusedSectionVars false
namespace Go.Proofs.YtifckjhggamefaaDoor
open Go Go.Vx
set_option maxHeartbeats 4000000
set_option maxRecDepth 10000

section
variable {bx : List Box} {nr lr rows : List (List D)} {N F K L K2 : D} {p : Nat} {k a n q op2 n2 kd aa : Int} {v : Bool}
theorem bright_no (hN : IsS 5 nr N) (hF : F.oneC = true) (hK : IsS 5 rows K) (hL : IsS 3 lr L) (hb : (((a != 0) && ((k != 7) || (a != 1))) || (decide ((lr.length : Int) > 0) && (k != 9))) = true) :
    stepJ (ev cfg) cfg (.call 35 [.agg [.dat N, .dat F], .agg [I k, I n, I a, .dat K, .dat L]] bx) = some (.ret (B (false)) none) := by
  obtain ⟨w1, h1, h2, h3⟩ := hN
  obtain ⟨w2, q1, q2, q3⟩ := hK
  obtain ⟨w3, l1, l2, l3⟩ := hL
  cases c0 : (a != 0)
  · cases c1 : decide ((lr.length : Int) > 0)
    · simp only [c0, c1, Bool.false_and, Bool.true_and, Bool.and_false, Bool.and_true, Bool.false_or, Bool.or_false, Bool.false_eq_true, Bool.true_eq_false] at hb
    · cases c2 : (k != 9)
      · simp only [c0, c1, c2, Bool.false_and, Bool.true_and, Bool.and_false, Bool.and_true, Bool.false_or, Bool.or_false, Bool.false_eq_true, Bool.true_eq_false] at hb
      · simp (maxSteps := 2000000) only [go_sem, Nat.reduceSub, Nat.reduceAdd, Nat.reduceMul, Nat.reduceLT, Nat.reduceLeDiff, Nat.reduceBEq, Nat.reduceEqDiff, Nat.reduceGT, Int.reduceToNat, Int.reduceLT, Int.reduceNeg, Int.reduceEq, Int.reduceBEq, Int.reduceBNe, Int.reduceLE, Int.reduceGT, Int.reduceGE, Int.reduceNe, Int.reduceAdd, Int.reduceSub, Int.reduceMul, reduceIte, ↓reduceIte, fn35, cx35, Tryd.f35, ti3, ti4, ti22, ti23, ti25, ti26, ti27, ti29, ti42, ti53, ti55, ti57, ti60, ti70, h1, h3, hF, q1, q3, l1, l3, nat_neg, Int.toNat_natCast, c0, c1, c2]
  · cases c1 : (k != 7)
    · cases c2 : (a != 1)
      · cases c3 : decide ((lr.length : Int) > 0)
        · simp only [c0, c1, c2, c3, Bool.false_and, Bool.true_and, Bool.and_false, Bool.and_true, Bool.false_or, Bool.or_false, Bool.false_eq_true, Bool.true_eq_false] at hb
        · cases c4 : (k != 9)
          · simp only [c0, c1, c2, c3, c4, Bool.false_and, Bool.true_and, Bool.and_false, Bool.and_true, Bool.false_or, Bool.or_false, Bool.false_eq_true, Bool.true_eq_false] at hb
          · simp (maxSteps := 2000000) only [go_sem, Nat.reduceSub, Nat.reduceAdd, Nat.reduceMul, Nat.reduceLT, Nat.reduceLeDiff, Nat.reduceBEq, Nat.reduceEqDiff, Nat.reduceGT, Int.reduceToNat, Int.reduceLT, Int.reduceNeg, Int.reduceEq, Int.reduceBEq, Int.reduceBNe, Int.reduceLE, Int.reduceGT, Int.reduceGE, Int.reduceNe, Int.reduceAdd, Int.reduceSub, Int.reduceMul, reduceIte, ↓reduceIte, fn35, cx35, Tryd.f35, ti3, ti4, ti22, ti23, ti25, ti26, ti27, ti29, ti42, ti53, ti55, ti57, ti60, ti70, h1, h3, hF, q1, q3, l1, l3, nat_neg, Int.toNat_natCast, c0, c1, c2, c3, c4]
      · simp (maxSteps := 2000000) only [go_sem, Nat.reduceSub, Nat.reduceAdd, Nat.reduceMul, Nat.reduceLT, Nat.reduceLeDiff, Nat.reduceBEq, Nat.reduceEqDiff, Nat.reduceGT, Int.reduceToNat, Int.reduceLT, Int.reduceNeg, Int.reduceEq, Int.reduceBEq, Int.reduceBNe, Int.reduceLE, Int.reduceGT, Int.reduceGE, Int.reduceNe, Int.reduceAdd, Int.reduceSub, Int.reduceMul, reduceIte, ↓reduceIte, fn35, cx35, Tryd.f35, ti3, ti4, ti22, ti23, ti25, ti26, ti27, ti29, ti42, ti53, ti55, ti57, ti60, ti70, h1, h3, hF, q1, q3, l1, l3, nat_neg, Int.toNat_natCast, c0, c1, c2]
    · simp (maxSteps := 2000000) only [go_sem, Nat.reduceSub, Nat.reduceAdd, Nat.reduceMul, Nat.reduceLT, Nat.reduceLeDiff, Nat.reduceBEq, Nat.reduceEqDiff, Nat.reduceGT, Int.reduceToNat, Int.reduceLT, Int.reduceNeg, Int.reduceEq, Int.reduceBEq, Int.reduceBNe, Int.reduceLE, Int.reduceGT, Int.reduceGE, Int.reduceNe, Int.reduceAdd, Int.reduceSub, Int.reduceMul, reduceIte, ↓reduceIte, fn35, cx35, Tryd.f35, ti3, ti4, ti22, ti23, ti25, ti26, ti27, ti29, ti42, ti53, ti55, ti57, ti60, ti70, h1, h3, hF, q1, q3, l1, l3, nat_neg, Int.toNat_natCast, c0, c1]
end

end Go.Proofs.YtifckjhggamefaaDoor
