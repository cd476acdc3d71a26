/- Rounds of the terms' functions: shaped, typed, wrong, Check. No condition. -/
import Derived.Test.YtifckjhggamefaaDoorAt
import Derived.Test.YtifckjhggamefaaDoorMA
set_option linter.unusedSimpArgs false
set_option linter.unusedVariables false
set_option linter.unusedSectionVars false
namespace Go.Proofs.YtifckjhggamefaaDoor
open Go Go.Vx
set_option maxHeartbeats 4000000
set_option maxRecDepth 10000

/-- the table of operators -/
noncomputable def wordsD : List D := (cfg.glob 1).getD []
theorem gw : cfg.glob 1 = some wordsD := rfl

def bsL (l : List UInt8) : ByteArray := ⟨l.toArray⟩

structure Wd (op : Int) : Prop where
  neg : (op < 0) = False
  lt : (op.toNat < 15) = True
  row : (wordsD.drop (op.toNat * 4)).take 4 = [.lit (.string (bsL (wordL op))), dI (arity op), dI (tyOf (asked op)), dI (tyOf (truth op))]
  len : (op.toNat * 4 + 4 ≤ wordsD.length) = True
  r0 : wordsD[op.toNat * 4]? = some (.lit (.string (bsL (wordL op))))
  r1 : wordsD[op.toNat * 4 + 1]? = some (dI (arity op))

theorem wd {op : Int} (h : okOp op = true) : Wd op := by
  rcases okOp_cases h with rfl | rfl | rfl | rfl | rfl | rfl | rfl | rfl | rfl | rfl | rfl | rfl <;>
    exact ⟨eq_false (by decide), eq_true (by decide), rfl, eq_true (by decide), rfl, rfl⟩

section
variable {bx : List Box} {c : Box} {rows : List (List D)} {K : D} {i : Nat} {op n : Int} {K' : D}

theorem f62_1 {kl : Nat} (hK : IsS 3 rows K) (hrl : rows.length = kl) :
    stepJ (ev cfg) cfg (.call 95 [.agg [I 1, I n, .dat K]] bx) = some (.ret (B ((kl : Int) == 0 && decide (n ≥ 0) && decide (n ≤ 1099511627776))) none) := by
  obtain ⟨w, h1, h2, h3⟩ := hK
  cases c1 : ((kl : Int) == 0) <;> cases c2 : decide (n ≥ 0) <;> simp (maxSteps := 2000000) only [go_sem, Nat.reduceSub, Nat.reduceAdd, Nat.reduceMul, Nat.reduceLT, Nat.reduceLeDiff, Nat.reduceBEq, Nat.reduceEqDiff, Nat.reduceGT, Int.reduceToNat, Int.reduceLT, Int.reduceNeg, Int.reduceEq, Int.reduceBEq, Int.reduceBNe, Int.reduceLE, Int.reduceGT, Int.reduceGE, Int.reduceNe, Int.reduceAdd, Int.reduceSub, Int.reduceMul, reduceIte, ↓reduceIte, fn95, cx95, Tryd.f95, ti3, ti9, ti53, ti55, ti132, ti133, h1, h3, hrl, c1, c2]
theorem f62_2 {kl : Nat} (hK : IsS 3 rows K) (hrl : rows.length = kl) :
    stepJ (ev cfg) cfg (.call 95 [.agg [I 2, I n, .dat K]] bx) = some (.ret (B ((kl : Int) == 0 && decide (n ≥ 0) && decide (n < 4))) none) := by
  obtain ⟨w, h1, h2, h3⟩ := hK
  cases c1 : ((kl : Int) == 0) <;> cases c2 : decide (n ≥ 0) <;> simp (maxSteps := 2000000) only [go_sem, Nat.reduceSub, Nat.reduceAdd, Nat.reduceMul, Nat.reduceLT, Nat.reduceLeDiff, Nat.reduceBEq, Nat.reduceEqDiff, Nat.reduceGT, Int.reduceToNat, Int.reduceLT, Int.reduceNeg, Int.reduceEq, Int.reduceBEq, Int.reduceBNe, Int.reduceLE, Int.reduceGT, Int.reduceGE, Int.reduceNe, Int.reduceAdd, Int.reduceSub, Int.reduceMul, reduceIte, ↓reduceIte, fn95, cx95, Tryd.f95, ti3, ti9, ti53, ti55, ti132, ti133, h1, h3, hrl, c1, c2]
theorem f62_no (hK : IsS 3 rows K) (h1 : (op == 1) = false) (h2 : (op == 2) = false) (h : (decide (op < 3) || decide (op > 14) || n != 0) = true) :
    stepJ (ev cfg) cfg (.call 95 [.agg [I op, I n, .dat K]] bx) = some (.ret (B false) none) := by
  obtain ⟨w, k1, k2, k3⟩ := hK
  cases c1 : decide (op < 3)
  · cases c2 : decide (op > 14)
    · rw [c1, c2] at h
      simp only [Bool.false_or] at h
      simp (maxSteps := 2000000) only [go_sem, Nat.reduceSub, Nat.reduceAdd, Nat.reduceMul, Nat.reduceLT, Nat.reduceLeDiff, Nat.reduceBEq, Nat.reduceEqDiff, Nat.reduceGT, Int.reduceToNat, Int.reduceLT, Int.reduceNeg, Int.reduceEq, Int.reduceBEq, Int.reduceBNe, Int.reduceLE, Int.reduceGT, Int.reduceGE, Int.reduceNe, Int.reduceAdd, Int.reduceSub, Int.reduceMul, reduceIte, ↓reduceIte, fn95, cx95, Tryd.f95, ti3, ti9, ti53, ti55, ti132, ti133, k1, k3, h1, h2, c1, c2, h]
    · simp (maxSteps := 2000000) only [go_sem, Nat.reduceSub, Nat.reduceAdd, Nat.reduceMul, Nat.reduceLT, Nat.reduceLeDiff, Nat.reduceBEq, Nat.reduceEqDiff, Nat.reduceGT, Int.reduceToNat, Int.reduceLT, Int.reduceNeg, Int.reduceEq, Int.reduceBEq, Int.reduceBNe, Int.reduceLE, Int.reduceGT, Int.reduceGE, Int.reduceNe, Int.reduceAdd, Int.reduceSub, Int.reduceMul, reduceIte, ↓reduceIte, fn95, cx95, Tryd.f95, ti3, ti9, ti53, ti55, ti132, ti133, k1, k3, h1, h2, c1, c2]
  · simp (maxSteps := 2000000) only [go_sem, Nat.reduceSub, Nat.reduceAdd, Nat.reduceMul, Nat.reduceLT, Nat.reduceLeDiff, Nat.reduceBEq, Nat.reduceEqDiff, Nat.reduceGT, Int.reduceToNat, Int.reduceLT, Int.reduceNeg, Int.reduceEq, Int.reduceBEq, Int.reduceBNe, Int.reduceLE, Int.reduceGT, Int.reduceGE, Int.reduceNe, Int.reduceAdd, Int.reduceSub, Int.reduceMul, reduceIte, ↓reduceIte, fn95, cx95, Tryd.f95, ti3, ti9, ti53, ti55, ti132, ti133, k1, k3, h1, h2, c1]
theorem f62_op {kl : Nat} {b : Bool} (hK : IsS 3 rows K) (hrl : rows.length = kl) (h1 : (op == 1) = false) (h2 : (op == 2) = false) (c1 : decide (op < 3) = false) (c2 : decide (op > 14) = false) (c3 : (n != 0) = false) (W : Wd op)
    (h : ∀ bx : List Box, ev cfg (.call 96 [.dat K, .clo 99 []] bx) = some (.ret (B b) none)) :
    stepJ (ev cfg) cfg (.call 95 [.agg [I op, I n, .dat K]] bx) = some (.ret (B (!((kl : Int) != (arity op : Int)) && !b)) none) := by
  obtain ⟨w, k1, k2, k3⟩ := hK
  obtain ⟨w1, w2, w3, w4, w5, w6⟩ := W
  cases c4 : ((kl : Int) != (arity op : Int)) <;> simp (maxSteps := 2000000) only [go_sem, Nat.reduceSub, Nat.reduceAdd, Nat.reduceMul, Nat.reduceLT, Nat.reduceLeDiff, Nat.reduceBEq, Nat.reduceEqDiff, Nat.reduceGT, Int.reduceToNat, Int.reduceLT, Int.reduceNeg, Int.reduceEq, Int.reduceBEq, Int.reduceBNe, Int.reduceLE, Int.reduceGT, Int.reduceGE, Int.reduceNe, Int.reduceAdd, Int.reduceSub, Int.reduceMul, reduceIte, ↓reduceIte, fn95, cx95, Tryd.f95, ti3, ti9, ti53, ti55, ti132, ti133, k1, k3, h1, h2, c1, c2, c3, gw, w1, w2, w6, hrl, c4, h]
theorem f83 {b : Bool} (hK : IsS 3 rows K) (h : ∀ bx : List Box, ev cfg (.call 95 [.agg [I op, I n, .dat K]] bx) = some (.ret (B b) none)) :
    stepJ (ev cfg) cfg (.call 99 [.agg [I op, I n, .dat K]] bx) = some (.ret (B (!b)) none) := by
  obtain ⟨w, k1, k2, k3⟩ := hK
  simp (maxSteps := 2000000) only [go_sem, Nat.reduceSub, Nat.reduceAdd, Nat.reduceMul, Nat.reduceLT, Nat.reduceLeDiff, Nat.reduceBEq, Nat.reduceEqDiff, Nat.reduceGT, Int.reduceToNat, Int.reduceLT, Int.reduceNeg, Int.reduceEq, Int.reduceBEq, Int.reduceBNe, Int.reduceLE, Int.reduceGT, Int.reduceGE, Int.reduceNe, Int.reduceAdd, Int.reduceSub, Int.reduceMul, reduceIte, ↓reduceIte, fn99, cx99, Tryd.f99, ti3, ti53, ti55, k1, k3, h]

theorem f44_leaf (hK : IsS 3 rows K) (h : (op == 1 || op == 2) = true) : stepJ (ev cfg) cfg (.call 91 [.agg [I op, I n, .dat K]] bx) = some (.ret (I 1) none) := by
  obtain ⟨w, k1, k2, k3⟩ := hK
  cases c1 : (op == 1)
  · rw [c1, Bool.false_or] at h
    simp (maxSteps := 2000000) only [go_sem, Nat.reduceSub, Nat.reduceAdd, Nat.reduceMul, Nat.reduceLT, Nat.reduceLeDiff, Nat.reduceBEq, Nat.reduceEqDiff, Nat.reduceGT, Int.reduceToNat, Int.reduceLT, Int.reduceNeg, Int.reduceEq, Int.reduceBEq, Int.reduceBNe, Int.reduceLE, Int.reduceGT, Int.reduceGE, Int.reduceNe, Int.reduceAdd, Int.reduceSub, Int.reduceMul, reduceIte, ↓reduceIte, fn91, cx91, Tryd.f91, ti3, ti9, ti53, ti55, ti132, ti133, k1, k3, c1, h]
  · simp (maxSteps := 2000000) only [go_sem, Nat.reduceSub, Nat.reduceAdd, Nat.reduceMul, Nat.reduceLT, Nat.reduceLeDiff, Nat.reduceBEq, Nat.reduceEqDiff, Nat.reduceGT, Int.reduceToNat, Int.reduceLT, Int.reduceNeg, Int.reduceEq, Int.reduceBEq, Int.reduceBNe, Int.reduceLE, Int.reduceGT, Int.reduceGE, Int.reduceNe, Int.reduceAdd, Int.reduceSub, Int.reduceMul, reduceIte, ↓reduceIte, fn91, cx91, Tryd.f91, ti3, ti9, ti53, ti55, ti132, ti133, k1, k3, c1]
theorem f44_op {b : Bool} (hK : IsS 3 rows K) (h1 : (op == 1) = false) (h2 : (op == 2) = false) (W : Wd op)
    (h : ∀ c : Box, ev cfg (.call 96 [.dat K, .clo 97 [bx.length + 1]] (bx ++ [c, [S (bsL (wordL op)), I (arity op), I (tyOf (asked op)), I (tyOf (truth op))]])) = some (.ret (B b) none)) :
    stepJ (ev cfg) cfg (.call 91 [.agg [I op, I n, .dat K]] bx) = some (.ret (I (if b = true then 0 else tyOf (truth op))) none) := by
  obtain ⟨w, k1, k2, k3⟩ := hK
  obtain ⟨w1, w2, w3, w4, w5, w6⟩ := W
  cases b <;> simp (maxSteps := 2000000) only [go_sem, Nat.reduceSub, Nat.reduceAdd, Nat.reduceMul, Nat.reduceLT, Nat.reduceLeDiff, Nat.reduceBEq, Nat.reduceEqDiff, Nat.reduceGT, Int.reduceToNat, Int.reduceLT, Int.reduceNeg, Int.reduceEq, Int.reduceBEq, Int.reduceBNe, Int.reduceLE, Int.reduceGT, Int.reduceGE, Int.reduceNe, Int.reduceAdd, Int.reduceSub, Int.reduceMul, reduceIte, ↓reduceIte, fn91, cx91, Tryd.f91, ti3, ti9, ti53, ti55, ti132, ti133, k1, k3, h1, h2, gw, w1, w2, w3, w4, h]
theorem f64 {l : Nat} {s : ByteArray} {ar ask out x : Int} (hK : IsS 3 rows K) (hl : l < bx.length) (hb : bx[l]? = some [S s, I ar, I ask, I out]) (h : ∀ bx : List Box, ev cfg (.call 91 [.agg [I op, I n, .dat K]] bx) = some (.ret (I x) none)) :
    stepJ (ev cfg) cfg (.call 97 [.agg [I op, I n, .dat K], .ptr l 0] bx) = some (.ret (B (x != ask)) none) := by
  obtain ⟨w, k1, k2, k3⟩ := hK
  simp (maxSteps := 2000000) only [go_sem, Nat.reduceSub, Nat.reduceAdd, Nat.reduceMul, Nat.reduceLT, Nat.reduceLeDiff, Nat.reduceBEq, Nat.reduceEqDiff, Nat.reduceGT, Int.reduceToNat, Int.reduceLT, Int.reduceNeg, Int.reduceEq, Int.reduceBEq, Int.reduceBNe, Int.reduceLE, Int.reduceGT, Int.reduceGE, Int.reduceNe, Int.reduceAdd, Int.reduceSub, Int.reduceMul, reduceIte, ↓reduceIte, fn97, cx97, Tryd.f97, ti3, ti9, ti53, ti55, ti132, k1, k3, hl, hb, h]

theorem f43 {b1 b2 : Bool} (hK : IsS 3 rows K) (h1 : ∀ bx : List Box, ev cfg (.call 94 [.agg [I op, I n, .dat K], I 1] bx) = some (.ret (B b1) none)) (h2 : ∀ bx : List Box, ev cfg (.call 95 [.agg [I op, I n, .dat K]] bx) = some (.ret (B b2) none)) :
    stepJ (ev cfg) cfg (.call 90 [.agg [I op, I n, .dat K]] bx) = some (.ret (I (if b1 = true then 2 else if b2 = true then 0 else 4)) none) := by
  obtain ⟨w, k1, k2, k3⟩ := hK
  cases b1 <;> cases b2 <;> simp (maxSteps := 2000000) only [go_sem, Nat.reduceSub, Nat.reduceAdd, Nat.reduceMul, Nat.reduceLT, Nat.reduceLeDiff, Nat.reduceBEq, Nat.reduceEqDiff, Nat.reduceGT, Int.reduceToNat, Int.reduceLT, Int.reduceNeg, Int.reduceEq, Int.reduceBEq, Int.reduceBNe, Int.reduceLE, Int.reduceGT, Int.reduceGE, Int.reduceNe, Int.reduceAdd, Int.reduceSub, Int.reduceMul, reduceIte, ↓reduceIte, fn90, cx90, Tryd.f90, ti3, ti53, ti55, k1, k3, h1, h2]
theorem f21_bad {x : Int} (hK : IsS 3 rows K) (hx : (x != 0) = true) (h1 : ∀ bx : List Box, ev cfg (.call 90 [.agg [I op, I n, .dat K]] bx) = some (.ret (I x) none)) :
    stepJ (ev cfg) cfg (.call 82 [.agg [I op, I n, .dat K]] bx) = some (.ret (.tup [I 0, I x]) none) := by
  obtain ⟨w, k1, k2, k3⟩ := hK
  simp (maxSteps := 2000000) only [go_sem, Nat.reduceSub, Nat.reduceAdd, Nat.reduceMul, Nat.reduceLT, Nat.reduceLeDiff, Nat.reduceBEq, Nat.reduceEqDiff, Nat.reduceGT, Int.reduceToNat, Int.reduceLT, Int.reduceNeg, Int.reduceEq, Int.reduceBEq, Int.reduceBNe, Int.reduceLE, Int.reduceGT, Int.reduceGE, Int.reduceNe, Int.reduceAdd, Int.reduceSub, Int.reduceMul, reduceIte, ↓reduceIte, fn82, cx82, Tryd.f82, ti3, ti53, ti55, k1, k3, h1, hx]
theorem f21_ok {y : Int} (hK : IsS 3 rows K) (h1 : ∀ bx : List Box, ev cfg (.call 90 [.agg [I op, I n, .dat K]] bx) = some (.ret (I 0) none)) (h2 : ∀ bx : List Box, ev cfg (.call 91 [.agg [I op, I n, .dat K]] bx) = some (.ret (I y) none)) :
    stepJ (ev cfg) cfg (.call 82 [.agg [I op, I n, .dat K]] bx) = some (.ret (.tup [I y, I (if (y == 0) = true then 30 else 0)]) none) := by
  obtain ⟨w, k1, k2, k3⟩ := hK
  have h0 : ((0 : Int) != 0) = false := rfl
  cases c1 : (y == 0)
  · simp (maxSteps := 2000000) only [go_sem, Nat.reduceSub, Nat.reduceAdd, Nat.reduceMul, Nat.reduceLT, Nat.reduceLeDiff, Nat.reduceBEq, Nat.reduceEqDiff, Nat.reduceGT, Int.reduceToNat, Int.reduceLT, Int.reduceNeg, Int.reduceEq, Int.reduceBEq, Int.reduceBNe, Int.reduceLE, Int.reduceGT, Int.reduceGE, Int.reduceNe, Int.reduceAdd, Int.reduceSub, Int.reduceMul, reduceIte, ↓reduceIte, fn82, cx82, Tryd.f82, ti3, ti53, ti55, k1, k3, h1, h2, h0, c1]
  · have : y = 0 := by simpa using c1
    subst this
    simp (maxSteps := 2000000) only [go_sem, Nat.reduceSub, Nat.reduceAdd, Nat.reduceMul, Nat.reduceLT, Nat.reduceLeDiff, Nat.reduceBEq, Nat.reduceEqDiff, Nat.reduceGT, Int.reduceToNat, Int.reduceLT, Int.reduceNeg, Int.reduceEq, Int.reduceBEq, Int.reduceBNe, Int.reduceLE, Int.reduceGT, Int.reduceGE, Int.reduceNe, Int.reduceAdd, Int.reduceSub, Int.reduceMul, reduceIte, ↓reduceIte, fn82, cx82, Tryd.f82, ti3, ti53, ti55, k1, k3, h1, h2, h0, c1]
end

end Go.Proofs.YtifckjhggamefaaDoor
