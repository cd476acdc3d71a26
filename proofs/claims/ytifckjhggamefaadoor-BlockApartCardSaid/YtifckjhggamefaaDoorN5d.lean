/- Rounds of package net's functions: linked, others. No condition. -/
import Derived.Test.YtifckjhggamefaaDoorAt
import Derived.Test.YtifckjhggamefaaDoorB9
set_option linter.unusedSimpArgs false
set_option linter.unusedVariables false
set_option linter.unusedSectionVars false
namespace Go.Proofs.YtifckjhggamefaaDoor
open Go Go.Vx
set_option maxHeartbeats 4000000
set_option maxRecDepth 10000

section
variable {bx : List Box} {c : Box} {nr fr ors irs rs : List (List D)} {N F X Y K K2 : D} {i j p l : Nat} {k kd a op n op2 n2 f el ins : Int} {e cat v : Bool}
theorem link_o (k1 : (kd == 1) = false) (k2 : (kd == 2) = false) (k7 : (kd == 7) = false) (k5 : (kd == 5) = false) (k6 : (kd == 6) = false) (hN : IsS 5 nr N) (hF : F.oneC = true) (hX : IsS 1 ors X) (hY : IsS 1 irs Y) (hp : nr[p]? = some [dI kd, dI a, dI op2, dI n2, K2])
    (hO : ∀ bx : List Box, ev cfg (.call 39 [.agg [.dat N, .dat F], I p] bx) = some (.ret (.dat X) none)) (hI : ∀ bx : List Box, ev cfg (.call 83 [.agg [.dat N, .dat F], I p] bx) = some (.ret (.dat Y) none))
    (hloop : ev cfg (.loop 67 6 ⟨(.dead :: .dead :: .ptr bx.length 0 :: .dead :: .dead :: .dat X :: I irs.length :: I kd :: I 0 :: B true :: .dead :: .dead :: .dead :: .dead :: .dead :: .dead :: .dead :: .dead :: .dead :: .dead :: .dead :: .dead :: .dead :: .dead :: .dead :: .dead :: .dat X :: I ors.length :: I 0 :: .dead :: .dead :: .dead :: .dead :: .dead :: .dead :: .dead :: .dead :: .dead :: .dead :: .dead :: .dead :: .dead :: .dead :: .dead :: .dead :: .dead :: .dead :: .dead :: .dead :: .dead :: .dead :: .dead :: .dead :: .dead :: .dead :: .dead :: .dead :: .dead :: .dead :: .dead :: .dead :: .dead :: .dead :: .dead :: .dead :: .dead :: .dead :: .dead :: .dead :: .dead :: .dead :: .dead :: .dead :: .dead :: .dead :: .dead :: .dead :: .dead :: .dead :: .dead :: .dead :: .dead :: .dead :: .dead :: .dead :: .dead :: .dead :: .dead :: .dead :: .dead :: .dead :: .dead :: .dead :: .dead :: .dead :: .dead :: .dead :: .dead :: .dead :: .dead :: .dead :: .dead :: .dead :: .dead :: .dead :: .dead :: .dead :: .dead :: .dead :: .dead :: .dead :: .dead :: .dead :: .dead :: .dead :: .dead :: .dead :: .dead :: .dead :: .dead :: .dead :: .dead :: []), bx ++ [[.dat N, .dat F]], bx.length, none, false⟩) =
      some (.loop (.exit 0) ⟨(.dead :: .dead :: .dead :: .dead :: .dead :: .dat X :: I irs.length :: I kd :: I el :: B cat :: .dead :: .dead :: .dead :: .dead :: .dead :: .dead :: .dead :: .dead :: .dead :: .dead :: .dead :: .dead :: .dead :: .dead :: .dead :: .dead :: .dead :: .dead :: .dead :: .dead :: .dead :: .dead :: .dead :: .dead :: .dead :: .dead :: .dead :: .dead :: .dead :: .dead :: .dead :: .dead :: .dead :: .dead :: .dead :: .dead :: .dead :: .dead :: .dead :: .dead :: .dead :: .dead :: .dead :: .dead :: .dead :: .dead :: .dead :: .dead :: .dead :: .dead :: .dead :: .dead :: .dead :: .dead :: .dead :: .dead :: .dead :: .dead :: .dead :: .dead :: .dead :: .dead :: .dead :: .dead :: .dead :: .dead :: .dead :: .dead :: .dead :: .dead :: .dead :: .dead :: .dead :: .dead :: .dead :: .dead :: .dead :: .dead :: .dead :: .dead :: .dead :: .dead :: .dead :: .dead :: .dead :: .dead :: .dead :: .dead :: .dead :: .dead :: .dead :: .dead :: .dead :: .dead :: .dead :: .dead :: .dead :: .dead :: .dead :: .dead :: .dead :: .dead :: .dead :: .dead :: .dead :: .dead :: .dead :: .dead :: .dead :: .dead :: .dead :: .dead :: []), bx ++ [[.dat N, .dat F]], bx.length, none, false⟩)) :
    stepJ (ev cfg) cfg (.call 67 [.agg [.dat N, .dat F], I p] bx) = some (.ret (B (((irs.length : Int) == 1) && ((ors.length : Int) == 1))) none) := by
  obtain ⟨w, h1, h2, h3⟩ := hN
  obtain rfl := isS_w h2 hp
  obtain ⟨w', g1, g2, g3⟩ := hX
  obtain ⟨w'', q1, q2, q3⟩ := hY
  have l2 : p < nr.length := (List.getElem?_eq_some_iff.1 hp).1
  cases c0 : ((irs.length : Int) == 1) <;> cases c1 : ((ors.length : Int) == 1) <;> simp (maxSteps := 2000000) only [go_sem, Nat.reduceSub, Nat.reduceAdd, Nat.reduceMul, Nat.reduceLT, Nat.reduceLeDiff, Nat.reduceBEq, Nat.reduceEqDiff, Nat.reduceGT, Int.reduceToNat, Int.reduceLT, Int.reduceNeg, Int.reduceEq, Int.reduceBEq, Int.reduceBNe, Int.reduceLE, Int.reduceGT, Int.reduceGE, Int.reduceNe, Int.reduceAdd, Int.reduceSub, Int.reduceMul, reduceIte, ↓reduceIte, fn67, cx67, Tryd.f67, ti3, ti4, ti22, ti23, ti25, ti42, ti53, ti55, ti57, ti60, h1, h3, g1, g3, q1, q3, hF, hp, l2, hO, hI, hloop, nat_neg, Int.toNat_natCast, c0, c1, k1, k2, k7, k5, k6]
end

end Go.Proofs.YtifckjhggamefaaDoor
