/- Rounds of the blocks' functions: the conversion, the texts' outsides. No condition. -/
import Derived.Test.YtifckjhggamefaaDoorAt
import Derived.Test.YtifckjhggamefaaDoorMA
set_option linter.unusedSimpArgs false
set_option linter.unusedVariables false
set_option linter.unusedSectionVars false
namespace Go.Proofs.YtifckjhggamefaaDoor
open Go Go.Vx
set_option maxHeartbeats 4000000
set_option maxRecDepth 10000

section
variable {bx : List Box} {c : Box} {rows : List (List D)} {K L : D} {lr : List (List D)} {i : Nat} {k n a : Int} {K' L' : D}

theorem f13_long (hK : IsS 5 rows K) (hL : IsS 3 lr L) (hd : ∀ bx : List Box, ev cfg (.call 18 [.agg [I k, I n, I a, .dat K, .dat L]] bx) = some (.ret (B true) none)) :
    stepJ (ev cfg) cfg (.call 9 [.agg [I k, I n, I a, .dat K, .dat L]] bx) = some (.ret (.tup [S ⟨#[]⟩, I 2]) none) := by
  obtain ⟨w, h1, h2, h3⟩ := hK
  obtain ⟨wl, l1, l2, l3⟩ := hL
  simp (maxSteps := 2000000) only [go_sem, Nat.reduceSub, Nat.reduceAdd, Nat.reduceMul, Nat.reduceLT, Nat.reduceLeDiff, Nat.reduceBEq, Nat.reduceEqDiff, Nat.reduceGT, Int.reduceToNat, Int.reduceLT, Int.reduceNeg, Int.reduceEq, Int.reduceBEq, Int.reduceBNe, Int.reduceLE, Int.reduceGT, Int.reduceGE, Int.reduceNe, Int.reduceAdd, Int.reduceSub, Int.reduceMul, reduceIte, ↓reduceIte, fn9, cx9, Tryd.f9, ti3, ti26, ti27, ti29, ti70, h1, h3, l1, l3, hd]
theorem f13_bad (hK : IsS 5 rows K) (hL : IsS 3 lr L) (hd : ∀ bx : List Box, ev cfg (.call 18 [.agg [I k, I n, I a, .dat K, .dat L]] bx) = some (.ret (B false) none)) (hb : ∀ bx : List Box, ev cfg (.call 23 [.agg [I k, I n, I a, .dat K, .dat L]] bx) = some (.ret (B true) none)) :
    stepJ (ev cfg) cfg (.call 9 [.agg [I k, I n, I a, .dat K, .dat L]] bx) = some (.ret (.tup [S ⟨#[]⟩, I 4]) none) := by
  obtain ⟨w, h1, h2, h3⟩ := hK
  obtain ⟨wl, l1, l2, l3⟩ := hL
  simp (maxSteps := 2000000) only [go_sem, Nat.reduceSub, Nat.reduceAdd, Nat.reduceMul, Nat.reduceLT, Nat.reduceLeDiff, Nat.reduceBEq, Nat.reduceEqDiff, Nat.reduceGT, Int.reduceToNat, Int.reduceLT, Int.reduceNeg, Int.reduceEq, Int.reduceBEq, Int.reduceBNe, Int.reduceLE, Int.reduceGT, Int.reduceGE, Int.reduceNe, Int.reduceAdd, Int.reduceSub, Int.reduceMul, reduceIte, ↓reduceIte, fn9, cx9, Tryd.f9, ti3, ti26, ti27, ti29, ti70, h1, h3, l1, l3, hd, hb]
theorem f13_ok {s : ByteArray} (hK : IsS 5 rows K) (hL : IsS 3 lr L) (hd : ∀ bx : List Box, ev cfg (.call 18 [.agg [I k, I n, I a, .dat K, .dat L]] bx) = some (.ret (B false) none)) (hb : ∀ bx : List Box, ev cfg (.call 23 [.agg [I k, I n, I a, .dat K, .dat L]] bx) = some (.ret (B false) none))
    (ht : ∀ bx : List Box, ev cfg (.call 24 [.agg [I k, I n, I a, .dat K, .dat L]] bx) = some (.ret (S s) none)) :
    stepJ (ev cfg) cfg (.call 9 [.agg [I k, I n, I a, .dat K, .dat L]] bx) = some (.ret (.tup [S s, I 0]) none) := by
  obtain ⟨w, h1, h2, h3⟩ := hK
  obtain ⟨wl, l1, l2, l3⟩ := hL
  simp (maxSteps := 2000000) only [go_sem, Nat.reduceSub, Nat.reduceAdd, Nat.reduceMul, Nat.reduceLT, Nat.reduceLeDiff, Nat.reduceBEq, Nat.reduceEqDiff, Nat.reduceGT, Int.reduceToNat, Int.reduceLT, Int.reduceNeg, Int.reduceEq, Int.reduceBEq, Int.reduceBNe, Int.reduceLE, Int.reduceGT, Int.reduceGE, Int.reduceNe, Int.reduceAdd, Int.reduceSub, Int.reduceMul, reduceIte, ↓reduceIte, fn9, cx9, Tryd.f9, ti3, ti26, ti27, ti29, ti70, h1, h3, l1, l3, hd, hb, ht]

/-- a list that is made by appending -/
def mkS (k : Nat) : List (List D) → PV
  | [] => .dat .nil
  | xs => .own true k xs
def mkD (k : Nat) : List (List D) → D
  | [] => .nil
  | xs => .sl k xs
theorem f12 {ks ls : List (List D)} (hK : IsS 5 rows K) (hL : IsS 3 lr L)
    (hloop : ∀ c z : Box, c.all (cellLt (bx.length + 3)) = true → z.all (cellLt (bx.length + 3)) = true → ev cfg (.loop 14 3 ⟨(.dead :: .ptr bx.length 0 :: .ptr (bx.length + 1) 0 :: .ptr (bx.length + 2) 0 :: .dead :: .dead :: .dead :: .dead :: .dead :: .dead :: .dead :: .dead :: .dead :: .dead :: .dead :: .dead :: .dat K :: I rows.length :: I 0 :: .dead :: .dead :: .dead :: .dead :: .dead :: .dead :: .dead :: .dead :: .dead :: .dead :: .dead :: .dead :: .dead :: .dead :: .dead :: .dead :: .dead :: .dead :: .dead :: .dead :: .dead :: .dead :: .dead :: .dead :: .dead :: .dead :: .dead :: .dead :: .dead :: .dead :: .dead :: .dead :: []), bx ++ [c, z, [I k, I n, I a, .dat .nil, .dat .nil]], bx.length, none, false⟩) =
      some (.loop (.exit 0) ⟨(.dead :: .ptr bx.length 0 :: .ptr (bx.length + 1) 0 :: .ptr (bx.length + 2) 0 :: .dead :: .dead :: .dead :: .dead :: .dead :: .dead :: .dead :: .dead :: .dead :: .dead :: .dead :: .dead :: .dead :: .dead :: .dead :: .dead :: .dead :: .dead :: .dead :: .dead :: .dead :: .dead :: .dead :: .dead :: .dead :: .dead :: .dead :: .dead :: .dead :: .dead :: .dead :: .dead :: .dead :: .dead :: .dead :: .dead :: .dead :: .dead :: .dead :: .dead :: .dead :: .dead :: .dead :: .dead :: .dead :: .dead :: .dead :: []), bx ++ [c, z, [I k, I n, I a, mkS 5 ks, .dat .nil]], bx.length, none, false⟩))
    (hloop2 : ∀ c z : Box, c.all (cellLt (bx.length + 3)) = true → z.all (cellLt (bx.length + 3)) = true → ev cfg (.loop 14 8 ⟨(.dead :: .dead :: .ptr (bx.length + 1) 0 :: .ptr (bx.length + 2) 0 :: .dead :: .dead :: .dead :: .dead :: .dead :: .dead :: .dead :: .dead :: .dead :: .dead :: .dead :: .dead :: .dead :: .dead :: .dead :: .dead :: .dead :: .dead :: .dead :: .dead :: .dead :: .dead :: .dead :: .dead :: .dead :: .dead :: .dead :: .dat L :: I lr.length :: I 0 :: .dead :: .dead :: .dead :: .dead :: .dead :: .dead :: .dead :: .dead :: .dead :: .dead :: .dead :: .dead :: .dead :: .dead :: .dead :: .dead :: .dead :: []), bx ++ [c, z, [I k, I n, I a, mkS 5 ks, .dat .nil]], bx.length, none, false⟩) =
      some (.loop (.exit 2) ⟨(.dead :: .dead :: .ptr (bx.length + 1) 0 :: .ptr (bx.length + 2) 0 :: .dead :: .dead :: .dead :: .dead :: .dead :: .dead :: .dead :: .dead :: .dead :: .dead :: .dead :: .dead :: .dead :: .dead :: .dead :: .dead :: .dead :: .dead :: .dead :: .dead :: .dead :: .dead :: .dead :: .dead :: .dead :: .dead :: .dead :: .dead :: .dead :: .dead :: .dead :: .dead :: .dead :: .dead :: .dead :: .dead :: .dead :: .dead :: .dead :: .dead :: .dead :: .dead :: .dead :: .dead :: .dead :: .dead :: .dead :: []), bx ++ [c, z, [I k, I n, I a, mkS 5 ks, mkS 3 ls]], bx.length, none, false⟩)) :
    stepJ (ev cfg) cfg (.call 14 [.agg [I k, I n, I a, .dat K, .dat L]] bx) = some (.ret (.agg [I k, I n, I a, .dat (mkD 5 ks), .dat (mkD 3 ls)]) none) := by
  obtain ⟨w, h1, h2, h3⟩ := hK
  obtain ⟨wl, l1, l2, l3⟩ := hL
  have hl1 := hloop [I k, I n, I a, .dat K, .dat L] [I 0, I 0, I 0, .dat .nil, .dat .nil] (by simp [cellLt]) (by simp [cellLt])
  have hl2 := hloop2 [I k, I n, I a, .dat K, .dat L] [I 0, I 0, I 0, .dat .nil, .dat .nil] (by simp [cellLt]) (by simp [cellLt])
  cases ks <;> cases ls <;> simp only [mkS] at hl1 hl2 <;> simp (maxSteps := 2000000) only [go_sem, Nat.reduceSub, Nat.reduceAdd, Nat.reduceMul, Nat.reduceLT, Nat.reduceLeDiff, Nat.reduceBEq, Nat.reduceEqDiff, Nat.reduceGT, Int.reduceToNat, Int.reduceLT, Int.reduceNeg, Int.reduceEq, Int.reduceBEq, Int.reduceBNe, Int.reduceLE, Int.reduceGT, Int.reduceGE, Int.reduceNe, Int.reduceAdd, Int.reduceSub, Int.reduceMul, reduceIte, ↓reduceIte, fn14, cx14, Tryd.f14, ti3, ti26, ti27, ti29, ti47, ti48, ti50, ti70, ti77, h1, h3, l1, l3, hl1, hl2, mkD]
end

end Go.Proofs.YtifckjhggamefaaDoor
