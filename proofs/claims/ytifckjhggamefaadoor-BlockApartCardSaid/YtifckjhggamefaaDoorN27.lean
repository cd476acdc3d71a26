/- The law BlockApart, step by step: two right blocks. No condition. -/
import Derived.Test.YtifckjhggamefaaDoorAt
import Derived.Test.YtifckjhggamefaaDoorB9
set_option linter.unusedSimpArgs false
set_option linter.unusedVariables false
set_option linter.unusedSectionVars false
namespace Go.Proofs.YtifckjhggamefaaDoor
open Go Go.Vx
set_option maxHeartbeats 8000000
set_option maxRecDepth 10000

section
variable {bx : List Box} {rows rows2 lr lr2 : List (List D)} {N F K L K2 L2 : D} {k a n k2 a2 n2 e f g h x y : Int} {s t : ByteArray} {v : Bool}
theorem apart_go (hN : N.oneC = true) (hF : F.oneC = true) (hK : K.oneC = true) (hL : L.oneC = true) (hK2 : K2.oneC = true) (hL2 : L2.oneC = true) (ha : ∀ bx : List Box, ev cfg (.call 7 [] bx) = some (.ret (B true) none)) (hlg : ∀ bx : List Box, ev cfg (.call 5 [.agg [.dat N, .dat F]] bx) = some (.ret (B false) none)) (hb1 : ev cfg (.call 6 [.agg [I k, I n, I a, .dat K, .dat L], .ptr 3 0, I 1] [[.dat N, .dat F], [I k, I n, I a, .dat K, .dat L], [I k2, I n2, I a2, .dat K2, .dat L2], [I 400]]) = some (.ret (B false) (some ⟨[[.dat N, .dat F], [I k, I n, I a, .dat K, .dat L], [I k2, I n2, I a2, .dat K2, .dat L2], [I x]], 3, false⟩))) (hb2 : ev cfg (.call 6 [.agg [I k2, I n2, I a2, .dat K2, .dat L2], .ptr 4 0, I 1] [[.dat N, .dat F], [I k, I n, I a, .dat K, .dat L], [I k2, I n2, I a2, .dat K2, .dat L2], [I x], [I 400]]) = some (.ret (B false) (some ⟨[[.dat N, .dat F], [I k, I n, I a, .dat K, .dat L], [I k2, I n2, I a2, .dat K2, .dat L2], [I x], [I y]], 4, false⟩))) (hc1 : ∀ bx : List Box, ev cfg (.call 8 [.agg [.dat N, .dat F], .agg [I k, I n, I a, .dat K, .dat L]] bx) = some (.ret (I e) none)) (hc2 : ∀ bx : List Box, ev cfg (.call 8 [.agg [.dat N, .dat F], .agg [I k2, I n2, I a2, .dat K2, .dat L2]] bx) = some (.ret (I f) none)) (ht1 : ∀ bx : List Box, ev cfg (.call 9 [.agg [I k, I n, I a, .dat K, .dat L]] bx) = some (.ret (.tup [S s, I 0]) none)) (ht2 : ∀ bx : List Box, ev cfg (.call 9 [.agg [I k2, I n2, I a2, .dat K2, .dat L2]] bx) = some (.ret (.tup [S t, I 0]) none)) (hw : (((e != 0) && (e != 8)) || ((f != 0) && (f != 8))) = false) (hs : ∀ bx : List Box, ev cfg (.call 10 [.agg [I k, I n, I a, .dat K, .dat L], .agg [I k2, I n2, I a2, .dat K2, .dat L2]] bx) = some (.ret (B v) none)) (hv : (s.toList == t.toList) = v) :
    stepJ (ev cfg) cfg (.call 3 [.agg [.dat N, .dat F], .agg [I k, I n, I a, .dat K, .dat L], .agg [I k2, I n2, I a2, .dat K2, .dat L2]] []) = some (.ret (B true) none) := by
  cases c0 : (e != 0)
  · cases c1 : (f != 0)
    · simp (maxSteps := 2000000) only [go_sem, Nat.reduceSub, Nat.reduceAdd, Nat.reduceMul, Nat.reduceLT, Nat.reduceLeDiff, Nat.reduceBEq, Nat.reduceEqDiff, Nat.reduceGT, Int.reduceToNat, Int.reduceLT, Int.reduceNeg, Int.reduceEq, Int.reduceBEq, Int.reduceBNe, Int.reduceLE, Int.reduceGT, Int.reduceGE, Int.reduceNe, Int.reduceAdd, Int.reduceSub, Int.reduceMul, reduceIte, ↓reduceIte, fn3, cx3, Tryd.f3, ti3, ti4, ti22, ti23, ti25, ti26, ti27, ti29, ti34, ti53, ti55, ti57, ti60, ti70, hN, hF, hK, hL, hK2, hL2, ha, hlg, hb1, hb2, hc1, hc2, ht1, ht2, hs, hv, c0, c1]
    · cases c2 : (f != 8)
      · simp (maxSteps := 2000000) only [go_sem, Nat.reduceSub, Nat.reduceAdd, Nat.reduceMul, Nat.reduceLT, Nat.reduceLeDiff, Nat.reduceBEq, Nat.reduceEqDiff, Nat.reduceGT, Int.reduceToNat, Int.reduceLT, Int.reduceNeg, Int.reduceEq, Int.reduceBEq, Int.reduceBNe, Int.reduceLE, Int.reduceGT, Int.reduceGE, Int.reduceNe, Int.reduceAdd, Int.reduceSub, Int.reduceMul, reduceIte, ↓reduceIte, fn3, cx3, Tryd.f3, ti3, ti4, ti22, ti23, ti25, ti26, ti27, ti29, ti34, ti53, ti55, ti57, ti60, ti70, hN, hF, hK, hL, hK2, hL2, ha, hlg, hb1, hb2, hc1, hc2, ht1, ht2, hs, hv, c0, c1, c2]
      · simp only [c0, c1, c2, Bool.false_and, Bool.true_and, Bool.and_false, Bool.and_true, Bool.false_or, Bool.or_false, Bool.true_or, Bool.or_true, Bool.false_eq_true, Bool.true_eq_false] at hw
  · cases c1 : (e != 8)
    · cases c2 : (f != 0)
      · simp (maxSteps := 2000000) only [go_sem, Nat.reduceSub, Nat.reduceAdd, Nat.reduceMul, Nat.reduceLT, Nat.reduceLeDiff, Nat.reduceBEq, Nat.reduceEqDiff, Nat.reduceGT, Int.reduceToNat, Int.reduceLT, Int.reduceNeg, Int.reduceEq, Int.reduceBEq, Int.reduceBNe, Int.reduceLE, Int.reduceGT, Int.reduceGE, Int.reduceNe, Int.reduceAdd, Int.reduceSub, Int.reduceMul, reduceIte, ↓reduceIte, fn3, cx3, Tryd.f3, ti3, ti4, ti22, ti23, ti25, ti26, ti27, ti29, ti34, ti53, ti55, ti57, ti60, ti70, hN, hF, hK, hL, hK2, hL2, ha, hlg, hb1, hb2, hc1, hc2, ht1, ht2, hs, hv, c0, c1, c2]
      · cases c3 : (f != 8)
        · simp (maxSteps := 2000000) only [go_sem, Nat.reduceSub, Nat.reduceAdd, Nat.reduceMul, Nat.reduceLT, Nat.reduceLeDiff, Nat.reduceBEq, Nat.reduceEqDiff, Nat.reduceGT, Int.reduceToNat, Int.reduceLT, Int.reduceNeg, Int.reduceEq, Int.reduceBEq, Int.reduceBNe, Int.reduceLE, Int.reduceGT, Int.reduceGE, Int.reduceNe, Int.reduceAdd, Int.reduceSub, Int.reduceMul, reduceIte, ↓reduceIte, fn3, cx3, Tryd.f3, ti3, ti4, ti22, ti23, ti25, ti26, ti27, ti29, ti34, ti53, ti55, ti57, ti60, ti70, hN, hF, hK, hL, hK2, hL2, ha, hlg, hb1, hb2, hc1, hc2, ht1, ht2, hs, hv, c0, c1, c2, c3]
        · simp only [c0, c1, c2, c3, Bool.false_and, Bool.true_and, Bool.and_false, Bool.and_true, Bool.false_or, Bool.or_false, Bool.true_or, Bool.or_true, Bool.false_eq_true, Bool.true_eq_false] at hw
    · simp only [c0, c1, Bool.false_and, Bool.true_and, Bool.and_false, Bool.and_true, Bool.false_or, Bool.or_false, Bool.true_or, Bool.or_true, Bool.false_eq_true, Bool.true_eq_false] at hw
end

end Go.Proofs.YtifckjhggamefaaDoor
