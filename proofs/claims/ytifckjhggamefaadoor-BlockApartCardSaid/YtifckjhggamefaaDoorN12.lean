/- Rounds of package block's functions: Contains, splits, right$1, kids' search. No condition. -/
import Derived.Test.YtifckjhggamefaaDoorAt
import Derived.Test.YtifckjhggamefaaDoorB9
set_option linter.unusedSimpArgs false
set_option linter.unusedVariables false
set_option linter.unusedSectionVars false
namespace Go.Proofs.YtifckjhggamefaaDoor
open Go Go.Vx
set_option maxHeartbeats 4000000
set_option maxRecDepth 10000

section
variable {bx : List Box} {c : Box} {nr fr rows lr ors : List (List D)} {N F K L K' L' X : D} {i p l : Nat} {k a op n k2 n2 a2 : Int} {v : Bool}

theorem right1_f (hK : K.oneC = true) (hL : L.oneC = true) : stepJ (ev cfg) cfg (.call 55 [.agg [I k, I n, I a, .dat K, .dat L]] bx) = some (.ret (B (k == 3)) none) := by
  simp (maxSteps := 2000000) only [go_sem, Nat.reduceSub, Nat.reduceAdd, Nat.reduceMul, Nat.reduceLT, Nat.reduceLeDiff, Nat.reduceBEq, Nat.reduceEqDiff, Nat.reduceGT, Int.reduceToNat, Int.reduceLT, Int.reduceNeg, Int.reduceEq, Int.reduceBEq, Int.reduceBNe, Int.reduceLE, Int.reduceGT, Int.reduceGE, Int.reduceNe, Int.reduceAdd, Int.reduceSub, Int.reduceMul, reduceIte, ↓reduceIte, fn55, cx55, Tryd.f55, ti3, ti26, ti27, ti29, ti70, hK, hL]

theorem kid_round {g : FuncId} {cap : List Nat} (hcap : (cap.all fun l => decide (l < bx.length)) = true) (hK : IsS 5 rows K) (hget : rows[i]? = some [dI k, dI n, dI a, K', L']) (hlt : i < rows.length) (hmax : rows.length < 9223372036854775808) (hk : K'.oneC = true) (hl : L'.oneC = true)
    (hcall : ev cfg (.call g (.agg [I k, I n, I a, .dat K', .dat L'] :: cap.map fun l => .ptr l 0) bx) = some (.ret (B v) none)) :
    stepJ (ev cfg) cfg (.loop 58 2 ⟨(.dat K :: .clo g cap :: .dead :: .dead :: .dead :: .dead :: .dead :: I rows.length :: I i :: .dead :: .dead :: .dead :: .dead :: .dead :: .dead :: .dead :: .dead :: .dead :: .dead :: []), bx, bx.length, none, false⟩) =
      if v = true then some (.loop .ret ⟨(.dead :: .dead :: .dead :: .dead :: I i :: .dead :: .dead :: .dead :: .dead :: .dead :: .dead :: .dead :: .dead :: .dead :: .dead :: .dead :: .dead :: .dead :: .dead :: []), bx, bx.length, none, false⟩)
      else ev cfg (.loop 58 2 ⟨(.dat K :: .clo g cap :: .dead :: .dead :: .dead :: .dead :: .dead :: I rows.length :: I ((i + 1 : Nat) : Int) :: .dead :: .dead :: .dead :: .dead :: .dead :: .dead :: .dead :: .dead :: .dead :: .dead :: []), bx, bx.length, none, false⟩) := by
  obtain ⟨w, h1, h2, h3⟩ := hK
  obtain rfl := isS_w h2 hget
  cases v <;> simp (maxSteps := 2000000) only [go_sem, Nat.reduceSub, Nat.reduceAdd, Nat.reduceMul, Nat.reduceLT, Nat.reduceLeDiff, Nat.reduceBEq, Nat.reduceEqDiff, Nat.reduceGT, Int.reduceToNat, Int.reduceLT, Int.reduceNeg, Int.reduceEq, Int.reduceBEq, Int.reduceBNe, Int.reduceLE, Int.reduceGT, Int.reduceGE, Int.reduceNe, Int.reduceAdd, Int.reduceSub, Int.reduceMul, reduceIte, ↓reduceIte, fn58, cx58, Tryd.f58, ti3, ti26, ti27, ti29, ti70, h1, h3, hk, hl, hcap, nat_lt hlt, nat_neg, Int.toNat_natCast, hget, hcall, nat_succ hlt hmax]
theorem kid_end {g : FuncId} {cap : List Nat} (hcap : (cap.all fun l => decide (l < bx.length)) = true) (hK : K.oneC = true) {m : Nat} (hge : m ≤ i) :
    stepJ (ev cfg) cfg (.loop 58 2 ⟨(.dat K :: .clo g cap :: .dead :: .dead :: .dead :: .dead :: .dead :: I m :: I i :: .dead :: .dead :: .dead :: .dead :: .dead :: .dead :: .dead :: .dead :: .dead :: .dead :: []), bx, bx.length, none, false⟩) = some (.loop (.exit 0) ⟨(.dead :: .dead :: .dead :: .dead :: .dead :: .dead :: .dead :: .dead :: .dead :: .dead :: .dead :: .dead :: .dead :: .dead :: .dead :: .dead :: .dead :: .dead :: .dead :: []), bx, bx.length, none, false⟩) := by
  simp (maxSteps := 2000000) only [go_sem, Nat.reduceSub, Nat.reduceAdd, Nat.reduceMul, Nat.reduceLT, Nat.reduceLeDiff, Nat.reduceBEq, Nat.reduceEqDiff, Nat.reduceGT, Int.reduceToNat, Int.reduceLT, Int.reduceNeg, Int.reduceEq, Int.reduceBEq, Int.reduceBNe, Int.reduceLE, Int.reduceGT, Int.reduceGE, Int.reduceNe, Int.reduceAdd, Int.reduceSub, Int.reduceMul, reduceIte, ↓reduceIte, fn58, cx58, Tryd.f58, ti3, ti26, ti27, ti29, ti70, hcap, hK, nat_ge hge]
theorem kid_f {g : FuncId} {cap : List Nat} {y : Option Nat} (hcap : (cap.all fun l => decide (l < bx.length)) = true) (hK : IsS 5 rows K) 
    (hloop : ev cfg (.loop 58 2 ⟨(.dat K :: .clo g cap :: .dead :: .dead :: .dead :: .dead :: .dead :: I rows.length :: I 0 :: .dead :: .dead :: .dead :: .dead :: .dead :: .dead :: .dead :: .dead :: .dead :: .dead :: []), bx, bx.length, none, false⟩) = some (match y with
      | some j => .loop .ret ⟨(.dead :: .dead :: .dead :: .dead :: I j :: .dead :: .dead :: .dead :: .dead :: .dead :: .dead :: .dead :: .dead :: .dead :: .dead :: .dead :: .dead :: .dead :: .dead :: []), bx, bx.length, none, false⟩
      | none => .loop (.exit 0) ⟨(.dead :: .dead :: .dead :: .dead :: .dead :: .dead :: .dead :: .dead :: .dead :: .dead :: .dead :: .dead :: .dead :: .dead :: .dead :: .dead :: .dead :: .dead :: .dead :: []), bx, bx.length, none, false⟩)) :
    stepJ (ev cfg) cfg (.call 58 [.dat K, .clo g cap] bx) = some (.ret (I (match y with | some j => (j : Int) | none => -1)) none) := by
  obtain ⟨w, h1, h2, h3⟩ := hK
  cases y <;> simp only at hloop <;> simp (maxSteps := 2000000) only [go_sem, Nat.reduceSub, Nat.reduceAdd, Nat.reduceMul, Nat.reduceLT, Nat.reduceLeDiff, Nat.reduceBEq, Nat.reduceEqDiff, Nat.reduceGT, Int.reduceToNat, Int.reduceLT, Int.reduceNeg, Int.reduceEq, Int.reduceBEq, Int.reduceBNe, Int.reduceLE, Int.reduceGT, Int.reduceGE, Int.reduceNe, Int.reduceAdd, Int.reduceSub, Int.reduceMul, reduceIte, ↓reduceIte, fn58, cx58, Tryd.f58, ti3, ti26, ti27, ti29, ti70, hcap, h1, h3, hloop]
theorem some_kid {g : FuncId} {cap : List Nat} {y : Int} (hcap : (cap.all fun l => decide (l < bx.length)) = true) (hK : K.oneC = true) (hc : ev cfg (.call 58 [.dat K, .clo g cap] bx) = some (.ret (I y) none)) :
    stepJ (ev cfg) cfg (.call 36 [.dat K, .clo g cap] bx) = some (.ret (B (decide (y ≥ 0))) none) := by
  simp (maxSteps := 2000000) only [go_sem, Nat.reduceSub, Nat.reduceAdd, Nat.reduceMul, Nat.reduceLT, Nat.reduceLeDiff, Nat.reduceBEq, Nat.reduceEqDiff, Nat.reduceGT, Int.reduceToNat, Int.reduceLT, Int.reduceNeg, Int.reduceEq, Int.reduceBEq, Int.reduceBNe, Int.reduceLE, Int.reduceGT, Int.reduceGE, Int.reduceNe, Int.reduceAdd, Int.reduceSub, Int.reduceMul, reduceIte, ↓reduceIte, fn36, cx36, Tryd.f36, hcap, hK, hc]

theorem splits_no {q kd m : Int} (hN : IsS 5 nr N) (hF : F.oneC = true) (h : (decide (q ≥ 0) && decide (q < (nr.length : Int))) = false) :
    stepJ (ev cfg) cfg (.call 56 [.agg [.dat N, .dat F], I q, I kd, I m] bx) = some (.ret (B false) none) := by
  obtain ⟨w, h1, h2, h3⟩ := hN
  cases c1 : decide (q ≥ 0)
  · simp (maxSteps := 2000000) only [go_sem, Nat.reduceSub, Nat.reduceAdd, Nat.reduceMul, Nat.reduceLT, Nat.reduceLeDiff, Nat.reduceBEq, Nat.reduceEqDiff, Nat.reduceGT, Int.reduceToNat, Int.reduceLT, Int.reduceNeg, Int.reduceEq, Int.reduceBEq, Int.reduceBNe, Int.reduceLE, Int.reduceGT, Int.reduceGE, Int.reduceNe, Int.reduceAdd, Int.reduceSub, Int.reduceMul, reduceIte, ↓reduceIte, fn56, cx56, Tryd.f56, ti3, ti4, ti22, ti23, ti25, ti42, ti53, ti55, ti57, ti60, h1, h3, hF, c1]
  · rw [c1, Bool.true_and] at h
    simp (maxSteps := 2000000) only [go_sem, Nat.reduceSub, Nat.reduceAdd, Nat.reduceMul, Nat.reduceLT, Nat.reduceLeDiff, Nat.reduceBEq, Nat.reduceEqDiff, Nat.reduceGT, Int.reduceToNat, Int.reduceLT, Int.reduceNeg, Int.reduceEq, Int.reduceBEq, Int.reduceBNe, Int.reduceLE, Int.reduceGT, Int.reduceGE, Int.reduceNe, Int.reduceAdd, Int.reduceSub, Int.reduceMul, reduceIte, ↓reduceIte, fn56, cx56, Tryd.f56, ti3, ti4, ti22, ti23, ti25, ti42, ti53, ti55, ti57, ti60, h1, h3, hF, c1, h]
theorem splits_go {kd m : Int} (hN : IsS 5 nr N) (hF : F.oneC = true) (hp : nr[p]? = some [dI k, dI a, dI op, dI n, K]) (hX : IsS 1 ors X) (hO : ∀ bx : List Box, ev cfg (.call 39 [.agg [.dat N, .dat F], I p] bx) = some (.ret (.dat X) none)) :
    stepJ (ev cfg) cfg (.call 56 [.agg [.dat N, .dat F], I p, I kd, I m] bx) = some (.ret (B (k == kd && (decide (m > 1) && (ors.length : Int) == m))) none) := by
  obtain ⟨w, h1, h2, h3⟩ := hN
  obtain rfl := isS_w h2 hp
  obtain ⟨w', g1, g2, g3⟩ := hX
  have l2 : p < nr.length := (List.getElem?_eq_some_iff.1 hp).1
  have z1 : decide ((p : Int) ≥ 0) = true := decide_eq_true (by omega)
  have z2 : decide ((p : Int) < (nr.length : Int)) = true := decide_eq_true (by omega)
  cases c1 : (k == kd)
  · simp (maxSteps := 2000000) only [go_sem, Nat.reduceSub, Nat.reduceAdd, Nat.reduceMul, Nat.reduceLT, Nat.reduceLeDiff, Nat.reduceBEq, Nat.reduceEqDiff, Nat.reduceGT, Int.reduceToNat, Int.reduceLT, Int.reduceNeg, Int.reduceEq, Int.reduceBEq, Int.reduceBNe, Int.reduceLE, Int.reduceGT, Int.reduceGE, Int.reduceNe, Int.reduceAdd, Int.reduceSub, Int.reduceMul, reduceIte, ↓reduceIte, fn56, cx56, Tryd.f56, ti3, ti4, ti22, ti23, ti25, ti42, ti53, ti55, ti57, ti60, h1, h3, hF, hp, l2, z1, z2, c1, nat_neg, Int.toNat_natCast]
  · cases c2 : decide (m > 1)
    · simp (maxSteps := 2000000) only [go_sem, Nat.reduceSub, Nat.reduceAdd, Nat.reduceMul, Nat.reduceLT, Nat.reduceLeDiff, Nat.reduceBEq, Nat.reduceEqDiff, Nat.reduceGT, Int.reduceToNat, Int.reduceLT, Int.reduceNeg, Int.reduceEq, Int.reduceBEq, Int.reduceBNe, Int.reduceLE, Int.reduceGT, Int.reduceGE, Int.reduceNe, Int.reduceAdd, Int.reduceSub, Int.reduceMul, reduceIte, ↓reduceIte, fn56, cx56, Tryd.f56, ti3, ti4, ti22, ti23, ti25, ti42, ti53, ti55, ti57, ti60, h1, h3, hF, hp, l2, z1, z2, c1, c2, nat_neg, Int.toNat_natCast]
    · simp (maxSteps := 2000000) only [go_sem, Nat.reduceSub, Nat.reduceAdd, Nat.reduceMul, Nat.reduceLT, Nat.reduceLeDiff, Nat.reduceBEq, Nat.reduceEqDiff, Nat.reduceGT, Int.reduceToNat, Int.reduceLT, Int.reduceNeg, Int.reduceEq, Int.reduceBEq, Int.reduceBNe, Int.reduceLE, Int.reduceGT, Int.reduceGE, Int.reduceNe, Int.reduceAdd, Int.reduceSub, Int.reduceMul, reduceIte, ↓reduceIte, fn56, cx56, Tryd.f56, ti3, ti4, ti22, ti23, ti25, ti42, ti53, ti55, ti57, ti60, h1, h3, g1, g3, hF, hp, l2, z1, z2, c1, c2, hO, nat_neg, Int.toNat_natCast]
end

end Go.Proofs.YtifckjhggamefaaDoor
