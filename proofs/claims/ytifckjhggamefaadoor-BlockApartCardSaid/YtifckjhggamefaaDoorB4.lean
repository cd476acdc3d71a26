/- Rounds of the blocks' functions: depth, size, each. No condition. -/
import Derived.Test.YtifckjhggamefaaDoorAt
import Derived.Test.YtifckjhggamefaaDoorMA
set_option linter.unusedSimpArgs false
set_option linter.unusedVariables false
set_option linter.unusedSectionVars false
namespace Go.Proofs.YtifckjhggamefaaDoor
open Go Go.Vx
set_option maxHeartbeats 4000000
set_option maxRecDepth 10000

section
variable {bx : List Box} {c : Box} {rows : List (List D)} {K L : D} {lr : List (List D)} {i : Nat} {k n a : Int} {K' L' : D}

theorem r57 {x m : Int} (hK : IsS 5 rows K) (hc : c.all (cellLt (bx.length + 1)) = true) (hget : rows[i]? = some [dI k, dI n, dI a, K', L']) (hlt : i < rows.length) (hmax : rows.length < 9223372036854775808) (hk : K'.oneC = true) (hL : L'.oneC = true)
    (hcall : ∀ bx : List Box, ev cfg (.call 34 [.agg [I k, I n, I a, .dat K', .dat L']] bx) = some (.ret (I x) none)) :
    stepJ (ev cfg) cfg (.loop 34 3 ⟨(.dead :: .dead :: .dead :: I m :: .dead :: .dead :: .dead :: .dat K :: I rows.length :: I i :: .dead :: .dead :: .dead :: .dead :: .dead :: .dead :: .dead :: .dead :: .dead :: .dead :: []), bx ++ [c], bx.length, none, false⟩) =
      ev cfg (.loop 34 3 ⟨(.dead :: .dead :: .dead :: I (if m < x then x else m) :: .dead :: .dead :: .dead :: .dat K :: I rows.length :: I ((i + 1 : Nat) : Int) :: .dead :: .dead :: .dead :: .dead :: .dead :: .dead :: .dead :: .dead :: .dead :: .dead :: []), bx ++ [c], bx.length, none, false⟩) := by
  obtain ⟨w, h1, h2, h3⟩ := hK
  obtain rfl := isS_w h2 hget
  simp (maxSteps := 2000000) only [go_sem, Nat.reduceSub, Nat.reduceAdd, Nat.reduceMul, Nat.reduceLT, Nat.reduceLeDiff, Nat.reduceBEq, Nat.reduceEqDiff, Nat.reduceGT, Int.reduceToNat, Int.reduceLT, Int.reduceNeg, Int.reduceEq, Int.reduceBEq, Int.reduceBNe, Int.reduceLE, Int.reduceGT, Int.reduceGE, Int.reduceNe, Int.reduceAdd, Int.reduceSub, Int.reduceMul, reduceIte, ↓reduceIte, fn34, cx34, Tryd.f34, ti3, ti26, ti27, ti29, ti70, h1, h3, hk, hL, nat_lt hlt, nat_neg, Int.toNat_natCast, hget, hcall, hc, nat_succ hlt hmax, Nat.min_self]
theorem e57 {m : Int} {n i : Nat} (hc : c.all (cellLt (bx.length + 1)) = true) (hge : n ≤ i) :
    stepJ (ev cfg) cfg (.loop 34 3 ⟨(.dead :: .dead :: .dead :: I m :: .dead :: .dead :: .dead :: .dat K :: I n :: I i :: .dead :: .dead :: .dead :: .dead :: .dead :: .dead :: .dead :: .dead :: .dead :: .dead :: []), bx ++ [c], bx.length, none, false⟩) = some (.loop (.exit 0) ⟨(.dead :: .dead :: .dead :: I m :: .dead :: .dead :: .dead :: .dead :: .dead :: .dead :: .dead :: .dead :: .dead :: .dead :: .dead :: .dead :: .dead :: .dead :: .dead :: .dead :: []), bx ++ [c], bx.length, none, false⟩) := by
  simp (maxSteps := 2000000) only [go_sem, Nat.reduceSub, Nat.reduceAdd, Nat.reduceMul, Nat.reduceLT, Nat.reduceLeDiff, Nat.reduceBEq, Nat.reduceEqDiff, Nat.reduceGT, Int.reduceToNat, Int.reduceLT, Int.reduceNeg, Int.reduceEq, Int.reduceBEq, Int.reduceBNe, Int.reduceLE, Int.reduceGT, Int.reduceGE, Int.reduceNe, Int.reduceAdd, Int.reduceSub, Int.reduceMul, reduceIte, ↓reduceIte, fn34, cx34, Tryd.f34, ti3, ti26, ti27, ti29, ti70, nat_ge hge, hc]
theorem f57 {x : Int} (hK : IsS 5 rows K) (hL : IsS 3 lr L) (hx : IntKind.wrap .i64 (x + 1) = x + 1)
    (hloop : ∀ c : Box, c.all (cellLt (bx.length + 1)) = true → ev cfg (.loop 34 3 ⟨(.dead :: .dead :: .dead :: I 0 :: .dead :: .dead :: .dead :: .dat K :: I rows.length :: I 0 :: .dead :: .dead :: .dead :: .dead :: .dead :: .dead :: .dead :: .dead :: .dead :: .dead :: []), bx ++ [c], bx.length, none, false⟩) = some (.loop (.exit 0) ⟨(.dead :: .dead :: .dead :: I x :: .dead :: .dead :: .dead :: .dead :: .dead :: .dead :: .dead :: .dead :: .dead :: .dead :: .dead :: .dead :: .dead :: .dead :: .dead :: .dead :: []), bx ++ [c], bx.length, none, false⟩)) :
    stepJ (ev cfg) cfg (.call 34 [.agg [I k, I n, I a, .dat K, .dat L]] bx) = some (.ret (I (x + 1)) none) := by
  obtain ⟨w, h1, h2, h3⟩ := hK
  obtain ⟨wl, l1, l2, l3⟩ := hL
  have hloop' := hloop [I k, I n, I a, .dat K, .dat L] (by simp [cellLt])
  simp (maxSteps := 2000000) only [go_sem, Nat.reduceSub, Nat.reduceAdd, Nat.reduceMul, Nat.reduceLT, Nat.reduceLeDiff, Nat.reduceBEq, Nat.reduceEqDiff, Nat.reduceGT, Int.reduceToNat, Int.reduceLT, Int.reduceNeg, Int.reduceEq, Int.reduceBEq, Int.reduceBNe, Int.reduceLE, Int.reduceGT, Int.reduceGE, Int.reduceNe, Int.reduceAdd, Int.reduceSub, Int.reduceMul, reduceIte, ↓reduceIte, fn34, cx34, Tryd.f34, ti3, ti26, ti27, ti29, ti70, h1, h3, l1, l3, hloop', hx]

theorem f36 {x : Int} (hK : IsS 5 rows K) (hL : IsS 3 lr L) (hx : IntKind.wrap .i64 (x + 1) = x + 1)
    (hloop : ∀ c : Box, c.all (cellLt (bx.length + 1)) = true → ev cfg (.loop 13 3 ⟨(.dead :: .dead :: .dead :: I 0 :: .dead :: .dead :: .dead :: .dead :: .dat K :: I rows.length :: I 0 :: .dead :: .dead :: .dead :: .dead :: .dead :: .dead :: .dead :: .dead :: .dead :: .dead :: .dead :: .dead :: []), bx ++ [c], bx.length, none, false⟩) = some (.loop (.exit 0) ⟨(.dead :: .dead :: .dead :: I x :: .dead :: .dead :: .dead :: .dead :: .dead :: .dead :: .dead :: .dead :: .dead :: .dead :: .dead :: .dead :: .dead :: .dead :: .dead :: .dead :: .dead :: .dead :: .dead :: []), bx ++ [c], bx.length, none, false⟩)) :
    stepJ (ev cfg) cfg (.call 13 [.agg [I k, I n, I a, .dat K, .dat L]] bx) = some (.ret (I (x + 1)) none) := by
  obtain ⟨w, h1, h2, h3⟩ := hK
  obtain ⟨wl, l1, l2, l3⟩ := hL
  have hloop' := hloop [I k, I n, I a, .dat K, .dat L] (by simp [cellLt])
  simp (maxSteps := 2000000) only [go_sem, Nat.reduceSub, Nat.reduceAdd, Nat.reduceMul, Nat.reduceLT, Nat.reduceLeDiff, Nat.reduceBEq, Nat.reduceEqDiff, Nat.reduceGT, Int.reduceToNat, Int.reduceLT, Int.reduceNeg, Int.reduceEq, Int.reduceBEq, Int.reduceBNe, Int.reduceLE, Int.reduceGT, Int.reduceGE, Int.reduceNe, Int.reduceAdd, Int.reduceSub, Int.reduceMul, reduceIte, ↓reduceIte, fn13, cx13, Tryd.f13, ti3, ti47, ti48, ti50, ti77, h1, h3, l1, l3, hloop', hx]

theorem r39 {l : Nat} {u v : Box} {g : FuncId} (hK : IsS 5 rows K) (hl : l < bx.length) (hb : bx[l]? = some u) (hc : c.all (cellLt (bx.length + 1)) = true) (hget : rows[i]? = some [dI k, dI n, dI a, K', L']) (hlt : i < rows.length) (hmax : rows.length < 9223372036854775808) (hk : K'.oneC = true) (hL : L'.oneC = true)
    (lo : Option Nat) (hlo : lo = none ∨ lo = some l)
    (hcall : ∀ bx : List Box, bx[l]? = some u → ev cfg (.call 30 [.agg [I k, I n, I a, .dat K', .dat L'], .clo g [l]] bx) = some (.ret (.tup []) (some ⟨bx.set l v, l, false⟩))) :
    stepJ (ev cfg) cfg (.loop 30 3 ⟨(.dead :: .clo g [l] :: .dead :: .dead :: .dead :: .dead :: .dead :: .dead :: .dead :: .dead :: .dat K :: I rows.length :: I i :: .dead :: .dead :: .dead :: .dead :: .dead :: .dead :: .dead :: []), bx ++ [c], bx.length, lo, false⟩) =
      ev cfg (.loop 30 3 ⟨(.dead :: .clo g [l] :: .dead :: .dead :: .dead :: .dead :: .dead :: .dead :: .dead :: .dead :: .dat K :: I rows.length :: I ((i + 1 : Nat) : Int) :: .dead :: .dead :: .dead :: .dead :: .dead :: .dead :: .dead :: []), bx.set l v ++ [c], bx.length, some l, false⟩) := by
  obtain ⟨w, h1, h2, h3⟩ := hK
  obtain rfl := isS_w h2 hget
  have hcall' : ∀ r : Box, ev cfg (.call 30 [.agg [I k, I n, I a, .dat K', .dat L'], .clo g [l]] (bx ++ [c, r])) = some (.ret (.tup []) (some ⟨bx.set l v ++ [c, r], l, false⟩)) := by
    intro r
    rw [hcall _ (by rw [get_old hl]; exact hb), set_old hl]
  rcases hlo with rfl | rfl <;> simp (maxSteps := 2000000) only [go_sem, Nat.reduceSub, Nat.reduceAdd, Nat.reduceMul, Nat.reduceLT, Nat.reduceLeDiff, Nat.reduceBEq, Nat.reduceEqDiff, Nat.reduceGT, Int.reduceToNat, Int.reduceLT, Int.reduceNeg, Int.reduceEq, Int.reduceBEq, Int.reduceBNe, Int.reduceLE, Int.reduceGT, Int.reduceGE, Int.reduceNe, Int.reduceAdd, Int.reduceSub, Int.reduceMul, reduceIte, ↓reduceIte, fn30, cx30, Tryd.f30, ti3, ti26, ti27, ti29, ti70, h1, h3, hk, hL, nat_lt hlt, nat_neg, Int.toNat_natCast, hget, hcall', hc, hl, nat_succ hlt hmax, Nat.min_self]
theorem e39 {l : Nat} {g : FuncId} {n i : Nat} (hl : l < bx.length) (hc : c.all (cellLt (bx.length + 1)) = true) (hge : n ≤ i) (lo : Option Nat) :
    stepJ (ev cfg) cfg (.loop 30 3 ⟨(.dead :: .clo g [l] :: .dead :: .dead :: .dead :: .dead :: .dead :: .dead :: .dead :: .dead :: .dat K :: I n :: I i :: .dead :: .dead :: .dead :: .dead :: .dead :: .dead :: .dead :: []), bx ++ [c], bx.length, lo, false⟩) = some (.loop (.exit 0) ⟨(.dead :: .dead :: .dead :: .dead :: .dead :: .dead :: .dead :: .dead :: .dead :: .dead :: .dead :: .dead :: .dead :: .dead :: .dead :: .dead :: .dead :: .dead :: .dead :: .dead :: []), bx ++ [c], bx.length, lo, false⟩) := by
  simp (maxSteps := 2000000) only [go_sem, Nat.reduceSub, Nat.reduceAdd, Nat.reduceMul, Nat.reduceLT, Nat.reduceLeDiff, Nat.reduceBEq, Nat.reduceEqDiff, Nat.reduceGT, Int.reduceToNat, Int.reduceLT, Int.reduceNeg, Int.reduceEq, Int.reduceBEq, Int.reduceBNe, Int.reduceLE, Int.reduceGT, Int.reduceGE, Int.reduceNe, Int.reduceAdd, Int.reduceSub, Int.reduceMul, reduceIte, ↓reduceIte, fn30, cx30, Tryd.f30, ti3, ti26, ti27, ti29, ti70, nat_ge hge, hc, hl]
theorem f39 {l : Nat} {u v w' : Box} {g : FuncId} (hK : IsS 5 rows K) (hL : IsS 3 lr L) (hl : l < bx.length) (hb : bx[l]? = some u)
    (hg : ∀ bx : List Box, bx[l]? = some u → ev cfg (.call g [.agg [I k, I n, I a, .dat K, .dat L], .ptr l 0] bx) = some (.ret (.tup []) (some ⟨bx.set l v, l, false⟩)))
    (hloop : ∀ c : Box, c.all (cellLt (bx.length + 1)) = true → ev cfg (.loop 30 3 ⟨(.dead :: .clo g [l] :: .dead :: .dead :: .dead :: .dead :: .dead :: .dead :: .dead :: .dead :: .dat K :: I rows.length :: I 0 :: .dead :: .dead :: .dead :: .dead :: .dead :: .dead :: .dead :: []), bx.set l v ++ [c], bx.length, some l, false⟩) = some (.loop (.exit 0) ⟨(.dead :: .dead :: .dead :: .dead :: .dead :: .dead :: .dead :: .dead :: .dead :: .dead :: .dead :: .dead :: .dead :: .dead :: .dead :: .dead :: .dead :: .dead :: .dead :: .dead :: []), bx.set l w' ++ [c], bx.length, some l, false⟩)) :
    stepJ (ev cfg) cfg (.call 30 [.agg [I k, I n, I a, .dat K, .dat L], .clo g [l]] bx) = some (.ret (.tup []) (some ⟨bx.set l w', l, false⟩)) := by
  obtain ⟨w, h1, h2, h3⟩ := hK
  obtain ⟨wl, l1, l2, l3⟩ := hL
  have hloop' := hloop [I k, I n, I a, .dat K, .dat L] (by simp [cellLt])
  have hg' : ∀ r : Box, ev cfg (.call g [.agg [I k, I n, I a, .dat K, .dat L], .ptr l 0] (bx ++ [r])) = some (.ret (.tup []) (some ⟨bx.set l v ++ [r], l, false⟩)) := by
    intro r
    rw [hg _ (by rw [get_old hl]; exact hb), set_old hl]
  simp (maxSteps := 2000000) only [go_sem, Nat.reduceSub, Nat.reduceAdd, Nat.reduceMul, Nat.reduceLT, Nat.reduceLeDiff, Nat.reduceBEq, Nat.reduceEqDiff, Nat.reduceGT, Int.reduceToNat, Int.reduceLT, Int.reduceNeg, Int.reduceEq, Int.reduceBEq, Int.reduceBNe, Int.reduceLE, Int.reduceGT, Int.reduceGE, Int.reduceNe, Int.reduceAdd, Int.reduceSub, Int.reduceMul, reduceIte, ↓reduceIte, fn30, cx30, Tryd.f30, ti3, ti26, ti27, ti29, ti70, h1, h3, l1, l3, hl, hb, hg', hloop']

theorem f40 {l : Nat} {m : Int} (hK : IsS 5 rows K) (hL : IsS 3 lr L) (hl : l < bx.length) (hb : bx[l]? = some [I m]) :
    stepJ (ev cfg) cfg (.call 31 [.agg [I k, I n, I a, .dat K, .dat L], .ptr l 0] bx) = some (.ret (.tup []) (some ⟨bx.set l [I (IntKind.wrap .i64 (m + 1))], l, false⟩)) := by
  obtain ⟨w, h1, h2, h3⟩ := hK
  obtain ⟨wl, l1, l2, l3⟩ := hL
  simp (maxSteps := 2000000) only [go_sem, Nat.reduceSub, Nat.reduceAdd, Nat.reduceMul, Nat.reduceLT, Nat.reduceLeDiff, Nat.reduceBEq, Nat.reduceEqDiff, Nat.reduceGT, Int.reduceToNat, Int.reduceLT, Int.reduceNeg, Int.reduceEq, Int.reduceBEq, Int.reduceBNe, Int.reduceLE, Int.reduceGT, Int.reduceGE, Int.reduceNe, Int.reduceAdd, Int.reduceSub, Int.reduceMul, reduceIte, ↓reduceIte, fn31, cx31, Tryd.f31, ti3, h1, h3, l1, l3, hl, hb]
theorem f15 {m : Int} (hK : IsS 5 rows K) (hL : IsS 3 lr L)
    (he : ∀ c : Box, ev cfg (.call 30 [.agg [I k, I n, I a, .dat K, .dat L], .clo 31 [bx.length + 1]] (bx ++ [c, [I 0]])) = some (.ret (.tup []) (some ⟨bx ++ [c, [I m]], bx.length + 1, false⟩))) :
    stepJ (ev cfg) cfg (.call 12 [.agg [I k, I n, I a, .dat K, .dat L]] bx) = some (.ret (I m) none) := by
  obtain ⟨w, h1, h2, h3⟩ := hK
  obtain ⟨wl, l1, l2, l3⟩ := hL
  simp (maxSteps := 2000000) only [go_sem, Nat.reduceSub, Nat.reduceAdd, Nat.reduceMul, Nat.reduceLT, Nat.reduceLeDiff, Nat.reduceBEq, Nat.reduceEqDiff, Nat.reduceGT, Int.reduceToNat, Int.reduceLT, Int.reduceNeg, Int.reduceEq, Int.reduceBEq, Int.reduceBNe, Int.reduceLE, Int.reduceGT, Int.reduceGE, Int.reduceNe, Int.reduceAdd, Int.reduceSub, Int.reduceMul, reduceIte, ↓reduceIte, fn12, cx12, Tryd.f12, ti3, ti26, ti27, ti29, ti70, h1, h3, l1, l3, he]
theorem f34 {m : Bool} (hK : IsS 5 rows K) (hL : IsS 3 lr L)
    (he : ∀ c : Box, ev cfg (.call 30 [.agg [I k, I n, I a, .dat K, .dat L], .clo 41 [bx.length + 1]] (bx ++ [c, [B false]])) = some (.ret (.tup []) (some ⟨bx ++ [c, [B m]], bx.length + 1, false⟩))) :
    stepJ (ev cfg) cfg (.call 23 [.agg [I k, I n, I a, .dat K, .dat L]] bx) = some (.ret (B m) none) := by
  obtain ⟨w, h1, h2, h3⟩ := hK
  obtain ⟨wl, l1, l2, l3⟩ := hL
  simp (maxSteps := 2000000) only [go_sem, Nat.reduceSub, Nat.reduceAdd, Nat.reduceMul, Nat.reduceLT, Nat.reduceLeDiff, Nat.reduceBEq, Nat.reduceEqDiff, Nat.reduceGT, Int.reduceToNat, Int.reduceLT, Int.reduceNeg, Int.reduceEq, Int.reduceBEq, Int.reduceBNe, Int.reduceLE, Int.reduceGT, Int.reduceGE, Int.reduceNe, Int.reduceAdd, Int.reduceSub, Int.reduceMul, reduceIte, ↓reduceIte, fn23, cx23, Tryd.f23, ti3, ti4, ti26, ti27, ti29, ti70, h1, h3, l1, l3, he]
theorem f33 {d z : Int} (hK : IsS 5 rows K) (hL : IsS 3 lr L)
    (hd : ∀ bx : List Box, ev cfg (.call 34 [.agg [I k, I n, I a, .dat K, .dat L]] bx) = some (.ret (I d) none))
    (hz : ∀ bx : List Box, ev cfg (.call 12 [.agg [I k, I n, I a, .dat K, .dat L]] bx) = some (.ret (I z) none)) :
    stepJ (ev cfg) cfg (.call 18 [.agg [I k, I n, I a, .dat K, .dat L]] bx) = some (.ret (B (decide (d > 24) || decide (z > 96))) none) := by
  obtain ⟨w, h1, h2, h3⟩ := hK
  obtain ⟨wl, l1, l2, l3⟩ := hL
  cases c : decide (d > 24) <;> simp (maxSteps := 2000000) only [go_sem, Nat.reduceSub, Nat.reduceAdd, Nat.reduceMul, Nat.reduceLT, Nat.reduceLeDiff, Nat.reduceBEq, Nat.reduceEqDiff, Nat.reduceGT, Int.reduceToNat, Int.reduceLT, Int.reduceNeg, Int.reduceEq, Int.reduceBEq, Int.reduceBNe, Int.reduceLE, Int.reduceGT, Int.reduceGE, Int.reduceNe, Int.reduceAdd, Int.reduceSub, Int.reduceMul, reduceIte, ↓reduceIte, fn18, cx18, Tryd.f18, ti3, ti26, ti27, ti29, ti70, h1, h3, l1, l3, hd, hz, c]
end

end Go.Proofs.YtifckjhggamefaaDoor
