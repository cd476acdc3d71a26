/- Rounds of block.each with a closure over some boxes, of which one turns. No condition. -/
import Derived.Test.YtifckjhggamefaaDoorAt
import Derived.Test.YtifckjhggamefaaDoorB9
set_option linter.unusedSimpArgs false
set_option linter.unusedVariables false
set_option linter.unusedSectionVars false
namespace Go.Proofs.YtifckjhggamefaaDoor
open Go Go.Vx
set_option maxHeartbeats 8000000
set_option maxRecDepth 10000

section
variable {bx : List Box} {c : Box} {nr fr rows lr ors acc acc2 : List (List D)} {N F K L K' L' X : D} {i j l l0 : Nat} {k a n f t op2 n2 : Int} {e v tt : Bool} {K2 : D}
theorem eachc_round {g : FuncId} {cap : List Nat} {u : Box} (hcap : (cap.all fun l => decide (l < bx.length + 1)) = true) (hK : IsS 5 rows K) (hl : l < bx.length) (hc : c.all (cellLt (bx.length + 1)) = true) (hget : rows[i]? = some [dI k, dI n, dI a, K', L']) (hlt : i < rows.length) (hmax : rows.length < 9223372036854775808) (hk : K'.oneC = true) (hL : L'.oneC = true)
    (lo : Option Nat) (hlo : lo = none ∨ lo = some l) (tt : Bool)
    (hcall : ∀ r : Box, ev cfg (.call 30 [.agg [I k, I n, I a, .dat K', .dat L'], .clo g cap] (bx ++ [c, r])) = some (.ret (.tup []) (if tt = true then some ⟨bx.set l u ++ [c, r], l, false⟩ else none))) :
    stepJ (ev cfg) cfg (.loop 30 3 ⟨(.dead :: .clo g cap :: .dead :: .dead :: .dead :: .dead :: .dead :: .dead :: .dead :: .dead :: .dat K :: I rows.length :: I i :: .dead :: .dead :: .dead :: .dead :: .dead :: .dead :: .dead :: []), bx ++ [c], bx.length, lo, false⟩) =
      ev cfg (.loop 30 3 ⟨(.dead :: .clo g cap :: .dead :: .dead :: .dead :: .dead :: .dead :: .dead :: .dead :: .dead :: .dat K :: I rows.length :: I ((i + 1 : Nat) : Int) :: .dead :: .dead :: .dead :: .dead :: .dead :: .dead :: .dead :: []), (if tt = true then bx.set l u else bx) ++ [c], bx.length, (if tt = true then some l else lo), false⟩) := by
  obtain ⟨w, h1, h2, h3⟩ := hK
  obtain rfl := isS_w h2 hget
  cases tt <;> simp only [if_true, if_false, Bool.false_eq_true] at hcall <;> rcases hlo with rfl | rfl <;> simp (maxSteps := 2000000) only [go_sem, Nat.reduceSub, Nat.reduceAdd, Nat.reduceMul, Nat.reduceLT, Nat.reduceLeDiff, Nat.reduceBEq, Nat.reduceEqDiff, Nat.reduceGT, Int.reduceToNat, Int.reduceLT, Int.reduceNeg, Int.reduceEq, Int.reduceBEq, Int.reduceBNe, Int.reduceLE, Int.reduceGT, Int.reduceGE, Int.reduceNe, Int.reduceAdd, Int.reduceSub, Int.reduceMul, reduceIte, ↓reduceIte, fn30, cx30, Tryd.f30, ti3, ti26, ti27, ti29, ti70, h1, h3, hk, hL, nat_lt hlt, nat_neg, Int.toNat_natCast, hget, hcall, hc, hl, hcap, nat_succ hlt hmax, Nat.min_self]
theorem eachc_end {g : FuncId} {cap : List Nat} {m : Nat} (hcap : (cap.all fun l => decide (l < bx.length + 1)) = true) (hc : c.all (cellLt (bx.length + 1)) = true) (hge : m ≤ i) (lo : Option Nat) (hK : K.oneC = true) :
    stepJ (ev cfg) cfg (.loop 30 3 ⟨(.dead :: .clo g cap :: .dead :: .dead :: .dead :: .dead :: .dead :: .dead :: .dead :: .dead :: .dat K :: I m :: I i :: .dead :: .dead :: .dead :: .dead :: .dead :: .dead :: .dead :: []), bx ++ [c], bx.length, lo, false⟩) = some (.loop (.exit 0) ⟨(.dead :: .dead :: .dead :: .dead :: .dead :: .dead :: .dead :: .dead :: .dead :: .dead :: .dead :: .dead :: .dead :: .dead :: .dead :: .dead :: .dead :: .dead :: .dead :: .dead :: []), bx ++ [c], bx.length, lo, false⟩) := by
  simp (maxSteps := 2000000) only [go_sem, Nat.reduceSub, Nat.reduceAdd, Nat.reduceMul, Nat.reduceLT, Nat.reduceLeDiff, Nat.reduceBEq, Nat.reduceEqDiff, Nat.reduceGT, Int.reduceToNat, Int.reduceLT, Int.reduceNeg, Int.reduceEq, Int.reduceBEq, Int.reduceBNe, Int.reduceLE, Int.reduceGT, Int.reduceGE, Int.reduceNe, Int.reduceAdd, Int.reduceSub, Int.reduceMul, reduceIte, ↓reduceIte, fn30, cx30, Tryd.f30, ti3, ti26, ti27, ti29, ti70, nat_ge hge, hc, hK, hcap]
theorem eachc_f {g : FuncId} {cap : List Nat} {u u2 : Box} (t1 t2 : Bool) (hcap : (cap.all fun l => decide (l < bx.length + 1)) = true) (hK : IsS 5 rows K) (hL : IsS 3 lr L) (hl : l < bx.length)
    (hg : ∀ r : Box, ev cfg (.call g (.agg [I k, I n, I a, .dat K, .dat L] :: cap.map fun l => .ptr l 0) (bx ++ [r])) = some (.ret (.tup []) (if t1 = true then some ⟨bx.set l u ++ [r], l, false⟩ else none)))
    (hloop : ∀ c : Box, c.all (cellLt (bx.length + 1)) = true → ev cfg (.loop 30 3 ⟨(.dead :: .clo g cap :: .dead :: .dead :: .dead :: .dead :: .dead :: .dead :: .dead :: .dead :: .dat K :: I rows.length :: I 0 :: .dead :: .dead :: .dead :: .dead :: .dead :: .dead :: .dead :: []), (if t1 = true then bx.set l u else bx) ++ [c], bx.length, (if t1 = true then some l else none), false⟩) =
      some (.loop (.exit 0) ⟨(.dead :: .dead :: .dead :: .dead :: .dead :: .dead :: .dead :: .dead :: .dead :: .dead :: .dead :: .dead :: .dead :: .dead :: .dead :: .dead :: .dead :: .dead :: .dead :: .dead :: []), (if t2 = true then bx.set l u2 else bx) ++ [c], bx.length, (if t2 = true then some l else none), false⟩)) :
    stepJ (ev cfg) cfg (.call 30 [.agg [I k, I n, I a, .dat K, .dat L], .clo g cap] bx) = some (.ret (.tup []) (if t2 = true then some ⟨bx.set l u2, l, false⟩ else none)) := by
  obtain ⟨w, h1, h2, h3⟩ := hK
  obtain ⟨wl, l1, l2, l3⟩ := hL
  have hloop' := hloop [I k, I n, I a, .dat K, .dat L] (by simp [cellLt])
  cases t1 <;> simp only [if_true, if_false, Bool.false_eq_true] at hg hloop' <;> cases t2 <;> simp only [if_true, if_false, Bool.false_eq_true] at hloop' <;> simp (maxSteps := 2000000) only [go_sem, Nat.reduceSub, Nat.reduceAdd, Nat.reduceMul, Nat.reduceLT, Nat.reduceLeDiff, Nat.reduceBEq, Nat.reduceEqDiff, Nat.reduceGT, Int.reduceToNat, Int.reduceLT, Int.reduceNeg, Int.reduceEq, Int.reduceBEq, Int.reduceBNe, Int.reduceLE, Int.reduceGT, Int.reduceGE, Int.reduceNe, Int.reduceAdd, Int.reduceSub, Int.reduceMul, reduceIte, ↓reduceIte, fn30, cx30, Tryd.f30, ti3, ti26, ti27, ti29, ti70, h1, h3, l1, l3, hl, hcap, hg, hloop']
end

end Go.Proofs.YtifckjhggamefaaDoor
