/- Rounds of package net's functions: third. No condition. -/
import Derived.Test.YtifckjhggamefaaDoorAt
import Derived.Test.YtifckjhggamefaaDoorB9
set_option linter.unusedSimpArgs false
set_option linter.unusedVariables false
set_option linter.unusedSectionVars false
namespace Go.Proofs.YtifckjhggamefaaDoor
open Go Go.Vx
set_option maxHeartbeats 4000000
set_option maxRecDepth 10000

section
variable {bx : List Box} {c : Box} {nr fr ors irs rs : List (List D)} {N F X Y K K2 : D} {i j p l : Nat} {k kd a op n op2 n2 f el ins : Int} {e cat v : Bool}

theorem third1_f {s z : Int} {l1 l2 l3 : Nat} {vl : Bool} (hN : IsS 5 nr N) (hF : F.oneC = true) (hp : nr[p]? = some [dI kd, dI a, dI op2, dI n2, K2]) (h1 : l1 < bx.length) (h2 : l2 < bx.length) (h3 : l3 < bx.length) (b1 : bx[l1]? = some [.dat N, .dat F]) (b2 : bx[l2]? = some [I s]) (b3 : bx[l3]? = some [I z])
    (hlk : ev cfg (.call 67 [.agg [.dat N, .dat F], I p] bx) = some (.ret (B vl) none)) :
    stepJ (ev cfg) cfg (.call 66 [I p, .ptr l1 0, .ptr l2 0, .ptr l3 0] bx) = some (.ret (B (!vl || ((kd == 1 && (p : Int) != s) || (kd == 2 && (p : Int) != z)))) none) := by
  obtain ⟨w, g1, g2, g3⟩ := hN
  obtain rfl := isS_w g2 hp
  have l2 : p < nr.length := (List.getElem?_eq_some_iff.1 hp).1
  cases vl <;> cases c1 : (kd == 1) <;> cases c2 : ((p : Int) != s) <;> cases c3 : (kd == 2) <;> cases c4 : ((p : Int) != z) <;> simp (maxSteps := 2000000) only [go_sem, Nat.reduceSub, Nat.reduceAdd, Nat.reduceMul, Nat.reduceLT, Nat.reduceLeDiff, Nat.reduceBEq, Nat.reduceEqDiff, Nat.reduceGT, Int.reduceToNat, Int.reduceLT, Int.reduceNeg, Int.reduceEq, Int.reduceBEq, Int.reduceBNe, Int.reduceLE, Int.reduceGT, Int.reduceGE, Int.reduceNe, Int.reduceAdd, Int.reduceSub, Int.reduceMul, reduceIte, ↓reduceIte, fn66, cx66, Tryd.f66, ti3, ti4, ti22, ti23, ti25, ti53, ti55, ti57, ti60, g1, g3, hF, hp, l2, h1, h2, h3, b1, b2, b3, hlk, nat_neg, Int.toNat_natCast, c1, c2, c3, c4]
theorem third_f0 {s z : Int} (hN : IsS 5 nr N) (hF : F.oneC = true) (hs : ∀ bx : List Box, ev cfg (.call 52 [.agg [.dat N, .dat F]] bx) = some (.ret (I s) none)) (hz : ∀ bx : List Box, ev cfg (.call 53 [.agg [.dat N, .dat F]] bx) = some (.ret (I z) none))
    (hpl : ev cfg (.call 45 [I 3, I nr.length, .clo 66 [bx.length, bx.length + 1, bx.length + 2]] (bx ++ [[.dat N, .dat F], [I s], [I z]])) = some (.ret (.dat .nil) none)) :
    stepJ (ev cfg) cfg (.call 50 [.agg [.dat N, .dat F]] bx) = some (.ret (if (decide (s < 0) || decide (z < 0)) = true then .own true 2 [[dI 3, dI nr.length]] else .dat .nil) none) := by
  obtain ⟨w, g1, g2, g3⟩ := hN
  cases c1 : decide (s < 0) <;> cases c2 : decide (z < 0) <;> simp (maxSteps := 2000000) only [go_sem, Nat.reduceSub, Nat.reduceAdd, Nat.reduceMul, Nat.reduceLT, Nat.reduceLeDiff, Nat.reduceBEq, Nat.reduceEqDiff, Nat.reduceGT, Int.reduceToNat, Int.reduceLT, Int.reduceNeg, Int.reduceEq, Int.reduceBEq, Int.reduceBNe, Int.reduceLE, Int.reduceGT, Int.reduceGE, Int.reduceNe, Int.reduceAdd, Int.reduceSub, Int.reduceMul, reduceIte, ↓reduceIte, fn50, cx50, Tryd.f50, ti3, ti4, ti22, ti23, ti25, ti53, ti55, ti57, ti60, ti79, ti82, g1, g3, hF, hs, hz, hpl, c1, c2]
theorem third_f1 {s z : Int} (hks : (rs.length + 1) * 16 ≤ 140737488355328) (hN : IsS 5 nr N) (hF : F.oneC = true) (hs : ∀ bx : List Box, ev cfg (.call 52 [.agg [.dat N, .dat F]] bx) = some (.ret (I s) none)) (hz : ∀ bx : List Box, ev cfg (.call 53 [.agg [.dat N, .dat F]] bx) = some (.ret (I z) none))
    (hpl : ev cfg (.call 45 [I 3, I nr.length, .clo 66 [bx.length, bx.length + 1, bx.length + 2]] (bx ++ [[.dat N, .dat F], [I s], [I z]])) = some (.ret (.own true 2 rs) none)) :
    stepJ (ev cfg) cfg (.call 50 [.agg [.dat N, .dat F]] bx) = some (.ret (.own true 2 (if (decide (s < 0) || decide (z < 0)) = true then rs ++ [[dI 3, dI nr.length]] else rs)) none) := by
  obtain ⟨w, g1, g2, g3⟩ := hN
  cases c1 : decide (s < 0) <;> cases c2 : decide (z < 0) <;> simp (maxSteps := 2000000) only [go_sem, Nat.reduceSub, Nat.reduceAdd, Nat.reduceMul, Nat.reduceLT, Nat.reduceLeDiff, Nat.reduceBEq, Nat.reduceEqDiff, Nat.reduceGT, Int.reduceToNat, Int.reduceLT, Int.reduceNeg, Int.reduceEq, Int.reduceBEq, Int.reduceBNe, Int.reduceLE, Int.reduceGT, Int.reduceGE, Int.reduceNe, Int.reduceAdd, Int.reduceSub, Int.reduceMul, reduceIte, ↓reduceIte, fn50, cx50, Tryd.f50, ti3, ti4, ti22, ti23, ti25, ti53, ti55, ti57, ti60, ti79, ti82, g1, g3, hF, hs, hz, hpl, c1, c2, hks]
end

end Go.Proofs.YtifckjhggamefaaDoor
