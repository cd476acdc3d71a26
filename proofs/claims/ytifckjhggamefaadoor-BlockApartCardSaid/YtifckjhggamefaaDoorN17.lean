/- Rounds of package block's functions: linked. No condition. -/
import Derived.Test.YtifckjhggamefaaDoorAt
import Derived.Test.YtifckjhggamefaaDoorB9
set_option linter.unusedSimpArgs false
set_option linter.unusedVariables false
set_option linter.unusedSectionVars false
namespace Go.Proofs.YtifckjhggamefaaDoor
open Go Go.Vx
set_option maxHeartbeats 8000000
set_option maxRecDepth 10000

section
variable {bx : List Box} {nr fr rows lr : List (List D)} {N F K L : D} {i : Nat} {k a n f t w ins outs : Int}
def badLk (nk nf : Nat) (f t w : Int) : Bool := decide (f < -1) || (decide (f ≥ (nk : Int)) || (decide (t < -1) || (decide (t ≥ (nk : Int)) || (decide (w < 0) || decide (w ≥ (nf : Int))))))
theorem blink_bad (hN : N.oneC = true) (hF : IsS 6 fr F) (hK : IsS 5 rows K) (hL : IsS 3 lr L) (hget : lr[i]? = some [dI f, dI t, dI w]) (hlt : i < lr.length) (hb : badLk rows.length fr.length f t w = true) :
    stepJ (ev cfg) cfg (.loop 57 3 ⟨(.dead :: .dead :: .ptr bx.length 0 :: .ptr (bx.length + 1) 0 :: .dead :: I ins :: I outs :: .dead :: .dead :: .dead :: .dat L :: I lr.length :: I i :: .dead :: .dead :: .dead :: .dead :: .dead :: .dead :: .dead :: .dead :: .dead :: .dead :: .dead :: .dead :: .dead :: .dead :: .dead :: .dead :: .dead :: .dead :: .dead :: .dead :: .dead :: .dead :: .dead :: .dead :: .dead :: .dead :: .dead :: .dead :: .dead :: .dead :: .dead :: .dead :: .dead :: .dead :: .dead :: .dead :: .dead :: .dead :: .dead :: .dead :: .dead :: .dead :: .dead :: .dead :: .dead :: .dead :: .dead :: .dead :: .dead :: .dead :: .dead :: .dead :: .dead :: .dead :: .dead :: .dead :: .dead :: .dead :: .dead :: .dead :: .dead :: .dead :: .dead :: []), bx ++ [[.dat N, .dat F], [I k, I n, I a, .dat K, .dat L]], bx.length, none, false⟩) =
      some (.loop .ret ⟨(.dead :: .dead :: .dead :: .ptr (bx.length + 1) 0 :: B false :: I ins :: I outs :: .dead :: .dead :: .dead :: .dead :: .dead :: .dead :: .dead :: .dead :: .dead :: .dead :: .dead :: .dead :: .dead :: .dead :: .dead :: .dead :: .dead :: .dead :: .dead :: .dead :: .dead :: .dead :: .dead :: .dead :: .dead :: .dead :: .dead :: .dead :: .dead :: .dead :: .dead :: .dead :: .dead :: .dead :: .dead :: .dead :: .dead :: .dead :: .dead :: .dead :: .dead :: .dead :: .dead :: .dead :: .dead :: .dead :: .dead :: .dead :: .dead :: .dead :: .dead :: .dead :: .dead :: .dead :: .dead :: .dead :: .dead :: .dead :: .dead :: .dead :: .dead :: .dead :: .dead :: .dead :: .dead :: .dead :: .dead :: .dead :: .dead :: []), bx ++ [[.dat N, .dat F], [I k, I n, I a, .dat K, .dat L]], bx.length, none, false⟩) := by
  obtain ⟨w1, h1, h2, h3⟩ := hL
  obtain rfl := isS_w h2 hget
  obtain ⟨w2, g1, g2, g3⟩ := hF
  obtain ⟨w3, q1, q2, q3⟩ := hK
  unfold badLk at hb
  cases c1 : decide (f < -1)
  · cases c2 : decide (f ≥ (rows.length : Int))
    · cases c3 : decide (t < -1)
      · cases c4 : decide (t ≥ (rows.length : Int))
        · cases c5 : decide (w < 0)
          · have c6 : decide (w ≥ (fr.length : Int)) = true := by simpa [c1, c2, c3, c4, c5] using hb
            simp (maxSteps := 2000000) only [go_sem, Nat.reduceSub, Nat.reduceAdd, Nat.reduceMul, Nat.reduceLT, Nat.reduceLeDiff, Nat.reduceBEq, Nat.reduceEqDiff, Nat.reduceGT, Int.reduceToNat, Int.reduceLT, Int.reduceNeg, Int.reduceEq, Int.reduceBEq, Int.reduceBNe, Int.reduceLE, Int.reduceGT, Int.reduceGE, Int.reduceNe, Int.reduceAdd, Int.reduceSub, Int.reduceMul, reduceIte, ↓reduceIte, fn57, cx57, Tryd.f57, ti3, ti4, ti22, ti23, ti25, ti26, ti27, ti29, ti53, ti55, ti57, ti60, ti70, h1, h3, g1, g3, q1, q3, hN, nat_lt hlt, nat_neg, Int.toNat_natCast, hget, c1, c2, c3, c4, c5, c6]
          · simp (maxSteps := 2000000) only [go_sem, Nat.reduceSub, Nat.reduceAdd, Nat.reduceMul, Nat.reduceLT, Nat.reduceLeDiff, Nat.reduceBEq, Nat.reduceEqDiff, Nat.reduceGT, Int.reduceToNat, Int.reduceLT, Int.reduceNeg, Int.reduceEq, Int.reduceBEq, Int.reduceBNe, Int.reduceLE, Int.reduceGT, Int.reduceGE, Int.reduceNe, Int.reduceAdd, Int.reduceSub, Int.reduceMul, reduceIte, ↓reduceIte, fn57, cx57, Tryd.f57, ti3, ti4, ti22, ti23, ti25, ti26, ti27, ti29, ti53, ti55, ti57, ti60, ti70, h1, h3, g1, g3, q1, q3, hN, nat_lt hlt, nat_neg, Int.toNat_natCast, hget, c1, c2, c3, c4, c5]
        · simp (maxSteps := 2000000) only [go_sem, Nat.reduceSub, Nat.reduceAdd, Nat.reduceMul, Nat.reduceLT, Nat.reduceLeDiff, Nat.reduceBEq, Nat.reduceEqDiff, Nat.reduceGT, Int.reduceToNat, Int.reduceLT, Int.reduceNeg, Int.reduceEq, Int.reduceBEq, Int.reduceBNe, Int.reduceLE, Int.reduceGT, Int.reduceGE, Int.reduceNe, Int.reduceAdd, Int.reduceSub, Int.reduceMul, reduceIte, ↓reduceIte, fn57, cx57, Tryd.f57, ti3, ti4, ti22, ti23, ti25, ti26, ti27, ti29, ti53, ti55, ti57, ti60, ti70, h1, h3, g1, g3, q1, q3, hN, nat_lt hlt, nat_neg, Int.toNat_natCast, hget, c1, c2, c3, c4]
      · simp (maxSteps := 2000000) only [go_sem, Nat.reduceSub, Nat.reduceAdd, Nat.reduceMul, Nat.reduceLT, Nat.reduceLeDiff, Nat.reduceBEq, Nat.reduceEqDiff, Nat.reduceGT, Int.reduceToNat, Int.reduceLT, Int.reduceNeg, Int.reduceEq, Int.reduceBEq, Int.reduceBNe, Int.reduceLE, Int.reduceGT, Int.reduceGE, Int.reduceNe, Int.reduceAdd, Int.reduceSub, Int.reduceMul, reduceIte, ↓reduceIte, fn57, cx57, Tryd.f57, ti3, ti4, ti22, ti23, ti25, ti26, ti27, ti29, ti53, ti55, ti57, ti60, ti70, h1, h3, g1, g3, q1, q3, hN, nat_lt hlt, nat_neg, Int.toNat_natCast, hget, c1, c2, c3]
    · simp (maxSteps := 2000000) only [go_sem, Nat.reduceSub, Nat.reduceAdd, Nat.reduceMul, Nat.reduceLT, Nat.reduceLeDiff, Nat.reduceBEq, Nat.reduceEqDiff, Nat.reduceGT, Int.reduceToNat, Int.reduceLT, Int.reduceNeg, Int.reduceEq, Int.reduceBEq, Int.reduceBNe, Int.reduceLE, Int.reduceGT, Int.reduceGE, Int.reduceNe, Int.reduceAdd, Int.reduceSub, Int.reduceMul, reduceIte, ↓reduceIte, fn57, cx57, Tryd.f57, ti3, ti4, ti22, ti23, ti25, ti26, ti27, ti29, ti53, ti55, ti57, ti60, ti70, h1, h3, g1, g3, q1, q3, hN, nat_lt hlt, nat_neg, Int.toNat_natCast, hget, c1, c2]
  · simp (maxSteps := 2000000) only [go_sem, Nat.reduceSub, Nat.reduceAdd, Nat.reduceMul, Nat.reduceLT, Nat.reduceLeDiff, Nat.reduceBEq, Nat.reduceEqDiff, Nat.reduceGT, Int.reduceToNat, Int.reduceLT, Int.reduceNeg, Int.reduceEq, Int.reduceBEq, Int.reduceBNe, Int.reduceLE, Int.reduceGT, Int.reduceGE, Int.reduceNe, Int.reduceAdd, Int.reduceSub, Int.reduceMul, reduceIte, ↓reduceIte, fn57, cx57, Tryd.f57, ti3, ti4, ti22, ti23, ti25, ti26, ti27, ti29, ti53, ti55, ti57, ti60, ti70, h1, h3, g1, g3, q1, q3, hN, nat_lt hlt, nat_neg, Int.toNat_natCast, hget, c1]
end

end Go.Proofs.YtifckjhggamefaaDoor
