/- Rounds of block.right: kinds 2, 8. No condition. -/
import Derived.Test.YtifckjhggamefaaDoorAt
import Derived.Test.YtifckjhggamefaaDoorB9
import Derived.Test.YtifckjhggamefaaDoorN12
set_option linter.unusedSimpArgs false
set_option linter.unusedVariables false
set_option linter.unusedSectionVars false
namespace Go.Proofs.YtifckjhggamefaaDoor
open Go Go.Vx
set_option maxHeartbeats 4000000
set_option maxRecDepth 10000

section
variable {bx : List Box} {nr lr rows : List (List D)} {N F K L K2 : D} {p : Nat} {k a n q op2 n2 kd aa : Int} {v : Bool}
theorem bright_2no (hN : IsS 5 nr N) (hF : F.oneC = true) (hK : IsS 5 rows K) (hL : IsS 3 lr L) (hl : decide ((lr.length : Int) > 0) = false) (h : (decide (n ≥ 0) && decide (n < (nr.length : Int))) = false) :
    stepJ (ev cfg) cfg (.call 35 [.agg [.dat N, .dat F], .agg [I 2, I n, I 0, .dat K, .dat L]] bx) = some (.ret (B (false)) none) := by
  obtain ⟨w1, h1, h2, h3⟩ := hN
  obtain ⟨w2, q1, q2, q3⟩ := hK
  obtain ⟨w3, l1, l2, l3⟩ := hL
  cases c0 : decide (n ≥ 0)
  · simp (maxSteps := 2000000) only [go_sem, Nat.reduceSub, Nat.reduceAdd, Nat.reduceMul, Nat.reduceLT, Nat.reduceLeDiff, Nat.reduceBEq, Nat.reduceEqDiff, Nat.reduceGT, Int.reduceToNat, Int.reduceLT, Int.reduceNeg, Int.reduceEq, Int.reduceBEq, Int.reduceBNe, Int.reduceLE, Int.reduceGT, Int.reduceGE, Int.reduceNe, Int.reduceAdd, Int.reduceSub, Int.reduceMul, reduceIte, ↓reduceIte, fn35, cx35, Tryd.f35, ti3, ti4, ti22, ti23, ti25, ti26, ti27, ti29, ti42, ti53, ti55, ti57, ti60, ti70, h1, h3, hF, q1, q3, l1, l3, nat_neg, Int.toNat_natCast, hl, c0]
  · rw [c0, Bool.true_and] at h; simp (maxSteps := 2000000) only [go_sem, Nat.reduceSub, Nat.reduceAdd, Nat.reduceMul, Nat.reduceLT, Nat.reduceLeDiff, Nat.reduceBEq, Nat.reduceEqDiff, Nat.reduceGT, Int.reduceToNat, Int.reduceLT, Int.reduceNeg, Int.reduceEq, Int.reduceBEq, Int.reduceBNe, Int.reduceLE, Int.reduceGT, Int.reduceGE, Int.reduceNe, Int.reduceAdd, Int.reduceSub, Int.reduceMul, reduceIte, ↓reduceIte, fn35, cx35, Tryd.f35, ti3, ti4, ti22, ti23, ti25, ti26, ti27, ti29, ti42, ti53, ti55, ti57, ti60, ti70, h1, h3, hF, q1, q3, l1, l3, nat_neg, Int.toNat_natCast, hl, h, c0]
theorem bright_2go (hN : IsS 5 nr N) (hF : F.oneC = true) (hK : IsS 5 rows K) (hL : IsS 3 lr L) (hl : decide ((lr.length : Int) > 0) = false) (hp : nr[p]? = some [dI kd, dI aa, dI op2, dI n2, K2]) (hv : ∀ bx : List Box, ev cfg (.call 29 [.dat (.sl 1 [[dI 3], [dI 4], [dI 8]]), I kd] bx) = some (.ret (B v) none)) :
    stepJ (ev cfg) cfg (.call 35 [.agg [.dat N, .dat F], .agg [I 2, I p, I 0, .dat K, .dat L]] bx) = some (.ret (B ((rows.length : Int) == 0 && v)) none) := by
  obtain ⟨w1, h1, h2, h3⟩ := hN
  obtain rfl := isS_w h2 hp
  obtain ⟨w2, q1, q2, q3⟩ := hK
  obtain ⟨w3, l1, l2, l3⟩ := hL
  have lp : p < nr.length := (List.getElem?_eq_some_iff.1 hp).1
  have z1 : decide ((p : Int) ≥ 0) = true := decide_eq_true (by omega)
  have z2 : decide ((p : Int) < (nr.length : Int)) = true := decide_eq_true (by omega)
  cases c0 : ((rows.length : Int) == 0)
  · simp (maxSteps := 2000000) only [go_sem, Nat.reduceSub, Nat.reduceAdd, Nat.reduceMul, Nat.reduceLT, Nat.reduceLeDiff, Nat.reduceBEq, Nat.reduceEqDiff, Nat.reduceGT, Int.reduceToNat, Int.reduceLT, Int.reduceNeg, Int.reduceEq, Int.reduceBEq, Int.reduceBNe, Int.reduceLE, Int.reduceGT, Int.reduceGE, Int.reduceNe, Int.reduceAdd, Int.reduceSub, Int.reduceMul, reduceIte, ↓reduceIte, fn35, cx35, Tryd.f35, ti3, ti4, ti22, ti23, ti25, ti26, ti27, ti29, ti42, ti53, ti55, ti57, ti60, ti70, h1, h3, hF, q1, q3, l1, l3, nat_neg, Int.toNat_natCast, hl, hv, hp, lp, z1, z2, c0]
  · simp (maxSteps := 2000000) only [go_sem, Nat.reduceSub, Nat.reduceAdd, Nat.reduceMul, Nat.reduceLT, Nat.reduceLeDiff, Nat.reduceBEq, Nat.reduceEqDiff, Nat.reduceGT, Int.reduceToNat, Int.reduceLT, Int.reduceNeg, Int.reduceEq, Int.reduceBEq, Int.reduceBNe, Int.reduceLE, Int.reduceGT, Int.reduceGE, Int.reduceNe, Int.reduceAdd, Int.reduceSub, Int.reduceMul, reduceIte, ↓reduceIte, fn35, cx35, Tryd.f35, ti3, ti4, ti22, ti23, ti25, ti26, ti27, ti29, ti42, ti53, ti55, ti57, ti60, ti70, h1, h3, hF, q1, q3, l1, l3, nat_neg, Int.toNat_natCast, hl, hv, hp, lp, z1, z2, c0]
theorem bright_8no (hN : IsS 5 nr N) (hF : F.oneC = true) (hK : IsS 5 rows K) (hL : IsS 3 lr L) (hl : decide ((lr.length : Int) > 0) = false) (h : (decide (n ≥ 0) && decide (n < (nr.length : Int))) = false) :
    stepJ (ev cfg) cfg (.call 35 [.agg [.dat N, .dat F], .agg [I 8, I n, I 0, .dat K, .dat L]] bx) = some (.ret (B (false)) none) := by
  obtain ⟨w1, h1, h2, h3⟩ := hN
  obtain ⟨w2, q1, q2, q3⟩ := hK
  obtain ⟨w3, l1, l2, l3⟩ := hL
  cases c0 : decide (n ≥ 0)
  · simp (maxSteps := 2000000) only [go_sem, Nat.reduceSub, Nat.reduceAdd, Nat.reduceMul, Nat.reduceLT, Nat.reduceLeDiff, Nat.reduceBEq, Nat.reduceEqDiff, Nat.reduceGT, Int.reduceToNat, Int.reduceLT, Int.reduceNeg, Int.reduceEq, Int.reduceBEq, Int.reduceBNe, Int.reduceLE, Int.reduceGT, Int.reduceGE, Int.reduceNe, Int.reduceAdd, Int.reduceSub, Int.reduceMul, reduceIte, ↓reduceIte, fn35, cx35, Tryd.f35, ti3, ti4, ti22, ti23, ti25, ti26, ti27, ti29, ti42, ti53, ti55, ti57, ti60, ti70, h1, h3, hF, q1, q3, l1, l3, nat_neg, Int.toNat_natCast, hl, c0]
  · rw [c0, Bool.true_and] at h; simp (maxSteps := 2000000) only [go_sem, Nat.reduceSub, Nat.reduceAdd, Nat.reduceMul, Nat.reduceLT, Nat.reduceLeDiff, Nat.reduceBEq, Nat.reduceEqDiff, Nat.reduceGT, Int.reduceToNat, Int.reduceLT, Int.reduceNeg, Int.reduceEq, Int.reduceBEq, Int.reduceBNe, Int.reduceLE, Int.reduceGT, Int.reduceGE, Int.reduceNe, Int.reduceAdd, Int.reduceSub, Int.reduceMul, reduceIte, ↓reduceIte, fn35, cx35, Tryd.f35, ti3, ti4, ti22, ti23, ti25, ti26, ti27, ti29, ti42, ti53, ti55, ti57, ti60, ti70, h1, h3, hF, q1, q3, l1, l3, nat_neg, Int.toNat_natCast, hl, h, c0]
theorem bright_8go (hN : IsS 5 nr N) (hF : F.oneC = true) (hK : IsS 5 rows K) (hL : IsS 3 lr L) (hl : decide ((lr.length : Int) > 0) = false) (hp : nr[p]? = some [dI kd, dI aa, dI op2, dI n2, K2]) (hv : ∀ bx : List Box, ev cfg (.call 29 [.dat (.sl 1 [[dI 5], [dI 6], [dI 7]]), I kd] bx) = some (.ret (B v) none)) :
    stepJ (ev cfg) cfg (.call 35 [.agg [.dat N, .dat F], .agg [I 8, I p, I 0, .dat K, .dat L]] bx) = some (.ret (B ((rows.length : Int) == 0 && v)) none) := by
  obtain ⟨w1, h1, h2, h3⟩ := hN
  obtain rfl := isS_w h2 hp
  obtain ⟨w2, q1, q2, q3⟩ := hK
  obtain ⟨w3, l1, l2, l3⟩ := hL
  have lp : p < nr.length := (List.getElem?_eq_some_iff.1 hp).1
  have z1 : decide ((p : Int) ≥ 0) = true := decide_eq_true (by omega)
  have z2 : decide ((p : Int) < (nr.length : Int)) = true := decide_eq_true (by omega)
  cases c0 : ((rows.length : Int) == 0)
  · simp (maxSteps := 2000000) only [go_sem, Nat.reduceSub, Nat.reduceAdd, Nat.reduceMul, Nat.reduceLT, Nat.reduceLeDiff, Nat.reduceBEq, Nat.reduceEqDiff, Nat.reduceGT, Int.reduceToNat, Int.reduceLT, Int.reduceNeg, Int.reduceEq, Int.reduceBEq, Int.reduceBNe, Int.reduceLE, Int.reduceGT, Int.reduceGE, Int.reduceNe, Int.reduceAdd, Int.reduceSub, Int.reduceMul, reduceIte, ↓reduceIte, fn35, cx35, Tryd.f35, ti3, ti4, ti22, ti23, ti25, ti26, ti27, ti29, ti42, ti53, ti55, ti57, ti60, ti70, h1, h3, hF, q1, q3, l1, l3, nat_neg, Int.toNat_natCast, hl, hv, hp, lp, z1, z2, c0]
  · simp (maxSteps := 2000000) only [go_sem, Nat.reduceSub, Nat.reduceAdd, Nat.reduceMul, Nat.reduceLT, Nat.reduceLeDiff, Nat.reduceBEq, Nat.reduceEqDiff, Nat.reduceGT, Int.reduceToNat, Int.reduceLT, Int.reduceNeg, Int.reduceEq, Int.reduceBEq, Int.reduceBNe, Int.reduceLE, Int.reduceGT, Int.reduceGE, Int.reduceNe, Int.reduceAdd, Int.reduceSub, Int.reduceMul, reduceIte, ↓reduceIte, fn35, cx35, Tryd.f35, ti3, ti4, ti22, ti23, ti25, ti26, ti27, ti29, ti42, ti53, ti55, ti57, ti60, ti70, h1, h3, hF, q1, q3, l1, l3, nat_neg, Int.toNat_natCast, hl, hv, hp, lp, z1, z2, c0]
end

end Go.Proofs.YtifckjhggamefaaDoor
