/- Rounds: Same of the program, the small case that each statement asks, the statement. No condition. -/
import Derived.Test.YtifckjhggamefaaDoorAt
import Derived.Test.YtifckjhggamefaaDoorMA
set_option linter.unusedSimpArgs false
set_option linter.unusedVariables false
set_option linter.unusedSectionVars false
namespace Go.Proofs.YtifckjhggamefaaDoor
open Go Go.Vx
set_option maxHeartbeats 4000000
set_option maxRecDepth 10000

section
variable {bx : List Box} {c : Box} {rows rows2 : List (List D)} {K L K2 L2 : D} {lr lr2 : List (List D)} {i : Nat} {k n a k2 n2 a2 : Int} {K' L' K2' L2' : D}

theorem f17 {x y : Bool} (hK : IsS 5 rows K) (hL : IsS 3 lr L) (hK2 : IsS 5 rows2 K2) (hL2 : IsS 3 lr2 L2)
    (h41 : ∀ bx : List Box, ev cfg (.call 25 [.dat L, .dat L2] bx) = some (.ret (B x) none)) (h42 : ∀ bx : List Box, ev cfg (.call 26 [.dat K, .dat K2, .clo 10 []] bx) = some (.ret (B y) none)) :
    stepJ (ev cfg) cfg (.call 10 [.agg [I k, I n, I a, .dat K, .dat L], .agg [I k2, I n2, I a2, .dat K2, .dat L2]] bx) = some (.ret (B (k == k2 && n == n2 && a == a2 && x && y)) none) := by
  obtain ⟨w, h1, h2, h3⟩ := hK
  obtain ⟨wl, l1, l2, l3⟩ := hL
  obtain ⟨w2, g1, g2, g3⟩ := hK2
  obtain ⟨wl2, m1, m2, m3⟩ := hL2
  cases c1 : (k == k2)
  · simp (maxSteps := 2000000) only [go_sem, Nat.reduceSub, Nat.reduceAdd, Nat.reduceMul, Nat.reduceLT, Nat.reduceLeDiff, Nat.reduceBEq, Nat.reduceEqDiff, Nat.reduceGT, Int.reduceToNat, Int.reduceLT, Int.reduceNeg, Int.reduceEq, Int.reduceBEq, Int.reduceBNe, Int.reduceLE, Int.reduceGT, Int.reduceGE, Int.reduceNe, Int.reduceAdd, Int.reduceSub, Int.reduceMul, reduceIte, ↓reduceIte, fn10, cx10, Tryd.f10, ti3, ti26, ti27, ti29, ti70, h1, h3, l1, l3, g1, g3, m1, m3, h41, h42, c1]
  · cases c2 : (n == n2)
    · simp (maxSteps := 2000000) only [go_sem, Nat.reduceSub, Nat.reduceAdd, Nat.reduceMul, Nat.reduceLT, Nat.reduceLeDiff, Nat.reduceBEq, Nat.reduceEqDiff, Nat.reduceGT, Int.reduceToNat, Int.reduceLT, Int.reduceNeg, Int.reduceEq, Int.reduceBEq, Int.reduceBNe, Int.reduceLE, Int.reduceGT, Int.reduceGE, Int.reduceNe, Int.reduceAdd, Int.reduceSub, Int.reduceMul, reduceIte, ↓reduceIte, fn10, cx10, Tryd.f10, ti3, ti26, ti27, ti29, ti70, h1, h3, l1, l3, g1, g3, m1, m3, h41, h42, c1, c2]
    · cases c3 : (a == a2)
      · simp (maxSteps := 2000000) only [go_sem, Nat.reduceSub, Nat.reduceAdd, Nat.reduceMul, Nat.reduceLT, Nat.reduceLeDiff, Nat.reduceBEq, Nat.reduceEqDiff, Nat.reduceGT, Int.reduceToNat, Int.reduceLT, Int.reduceNeg, Int.reduceEq, Int.reduceBEq, Int.reduceBNe, Int.reduceLE, Int.reduceGT, Int.reduceGE, Int.reduceNe, Int.reduceAdd, Int.reduceSub, Int.reduceMul, reduceIte, ↓reduceIte, fn10, cx10, Tryd.f10, ti3, ti26, ti27, ti29, ti70, h1, h3, l1, l3, g1, g3, m1, m3, h41, h42, c1, c2, c3]
      · cases x <;> simp (maxSteps := 2000000) only [go_sem, Nat.reduceSub, Nat.reduceAdd, Nat.reduceMul, Nat.reduceLT, Nat.reduceLeDiff, Nat.reduceBEq, Nat.reduceEqDiff, Nat.reduceGT, Int.reduceToNat, Int.reduceLT, Int.reduceNeg, Int.reduceEq, Int.reduceBEq, Int.reduceBNe, Int.reduceLE, Int.reduceGT, Int.reduceGE, Int.reduceNe, Int.reduceAdd, Int.reduceSub, Int.reduceMul, reduceIte, ↓reduceIte, fn10, cx10, Tryd.f10, ti3, ti26, ti27, ti29, ti70, h1, h3, l1, l3, g1, g3, m1, m3, h41, h42, c1, c2, c3]

theorem r42 {x : Bool} (hK : IsS 5 rows K) (hK2 : IsS 5 rows2 K2) (hget : rows[i]? = some [dI k, dI n, dI a, K', L']) (hget2 : rows2[i]? = some [dI k2, dI n2, dI a2, K2', L2']) (hlt : i < rows.length) (hmax : rows.length < 9223372036854775808) (hk : K'.oneC = true) (hL : L'.oneC = true) (hk2 : K2'.oneC = true) (hL2 : L2'.oneC = true)
    (hcall : ∀ bx : List Box, ev cfg (.call 10 [.agg [I k, I n, I a, .dat K', .dat L'], .agg [I k2, I n2, I a2, .dat K2', .dat L2']] bx) = some (.ret (B x) none)) :
    stepJ (ev cfg) cfg (.loop 26 4 ⟨(.dead :: .dat K2 :: .clo 10 [] :: .dead :: .dead :: .dead :: .dead :: .dead :: .dead :: .dead :: .dead :: .dead :: .dead :: .dead :: .dead :: .dat K :: I rows.length :: I i :: .dead :: .dead :: .dead :: .dead :: .dead :: .dead :: .dead :: .dead :: .dead :: .dead :: .dead :: .dead :: .dead :: .dead :: []), bx, bx.length, none, false⟩) =
      if x = true then ev cfg (.loop 26 4 ⟨(.dead :: .dat K2 :: .clo 10 [] :: .dead :: .dead :: .dead :: .dead :: .dead :: .dead :: .dead :: .dead :: .dead :: .dead :: .dead :: .dead :: .dat K :: I rows.length :: I ((i + 1 : Nat) : Int) :: .dead :: .dead :: .dead :: .dead :: .dead :: .dead :: .dead :: .dead :: .dead :: .dead :: .dead :: .dead :: .dead :: .dead :: []), bx, bx.length, none, false⟩)
      else some (.loop .ret ⟨(.dead :: .dead :: .dead :: .dead :: .dead :: .dead :: B false :: .dead :: .dead :: .dead :: .dead :: .dead :: .dead :: .dead :: .dead :: .dead :: .dead :: .dead :: .dead :: .dead :: .dead :: .dead :: .dead :: .dead :: .dead :: .dead :: .dead :: .dead :: .dead :: .dead :: .dead :: .dead :: []), bx, bx.length, none, false⟩) := by
  obtain ⟨w, h1, h2, h3⟩ := hK
  obtain rfl := isS_w h2 hget
  obtain ⟨w2, g1, g2, g3⟩ := hK2
  obtain rfl := isS_w g2 hget2
  cases x <;> simp (maxSteps := 2000000) only [go_sem, Nat.reduceSub, Nat.reduceAdd, Nat.reduceMul, Nat.reduceLT, Nat.reduceLeDiff, Nat.reduceBEq, Nat.reduceEqDiff, Nat.reduceGT, Int.reduceToNat, Int.reduceLT, Int.reduceNeg, Int.reduceEq, Int.reduceBEq, Int.reduceBNe, Int.reduceLE, Int.reduceGT, Int.reduceGE, Int.reduceNe, Int.reduceAdd, Int.reduceSub, Int.reduceMul, reduceIte, ↓reduceIte, fn26, cx26, Tryd.f26, ti3, ti26, ti27, ti29, ti70, h1, h3, g1, g3, hk, hL, hk2, hL2, nat_lt hlt, nat_neg, Int.toNat_natCast, hget, hget2, hcall, nat_succ hlt hmax, Nat.min_self, List.take_length, List.drop_length, Nat.le_refl, Nat.sub_self]
theorem e42 {n i : Nat} (hge : n ≤ i) :
    stepJ (ev cfg) cfg (.loop 26 4 ⟨(.dead :: .dat K2 :: .clo 10 [] :: .dead :: .dead :: .dead :: .dead :: .dead :: .dead :: .dead :: .dead :: .dead :: .dead :: .dead :: .dead :: .dat K :: I n :: I i :: .dead :: .dead :: .dead :: .dead :: .dead :: .dead :: .dead :: .dead :: .dead :: .dead :: .dead :: .dead :: .dead :: .dead :: []), bx, bx.length, none, false⟩) = some (.loop (.exit 0) ⟨(.dead :: .dead :: .dead :: .dead :: .dead :: .dead :: .dead :: .dead :: .dead :: .dead :: .dead :: .dead :: .dead :: .dead :: .dead :: .dead :: .dead :: .dead :: .dead :: .dead :: .dead :: .dead :: .dead :: .dead :: .dead :: .dead :: .dead :: .dead :: .dead :: .dead :: .dead :: .dead :: []), bx, bx.length, none, false⟩) := by
  simp (maxSteps := 2000000) only [go_sem, Nat.reduceSub, Nat.reduceAdd, Nat.reduceMul, Nat.reduceLT, Nat.reduceLeDiff, Nat.reduceBEq, Nat.reduceEqDiff, Nat.reduceGT, Int.reduceToNat, Int.reduceLT, Int.reduceNeg, Int.reduceEq, Int.reduceBEq, Int.reduceBNe, Int.reduceLE, Int.reduceGT, Int.reduceGE, Int.reduceNe, Int.reduceAdd, Int.reduceSub, Int.reduceMul, reduceIte, ↓reduceIte, fn26, cx26, Tryd.f26, ti3, ti26, ti27, ti29, ti70, nat_ge hge, List.take_length, List.drop_length, Nat.le_refl, Nat.sub_self]
theorem f42_len (hK : IsS 5 rows K) (hK2 : IsS 5 rows2 K2) (h : ((rows.length : Int) != (rows2.length : Int)) = true) :
    stepJ (ev cfg) cfg (.call 26 [.dat K, .dat K2, .clo 10 []] bx) = some (.ret (B false) none) := by
  obtain ⟨w, h1, h2, h3⟩ := hK
  obtain ⟨w2, g1, g2, g3⟩ := hK2
  simp (maxSteps := 2000000) only [go_sem, Nat.reduceSub, Nat.reduceAdd, Nat.reduceMul, Nat.reduceLT, Nat.reduceLeDiff, Nat.reduceBEq, Nat.reduceEqDiff, Nat.reduceGT, Int.reduceToNat, Int.reduceLT, Int.reduceNeg, Int.reduceEq, Int.reduceBEq, Int.reduceBNe, Int.reduceLE, Int.reduceGT, Int.reduceGE, Int.reduceNe, Int.reduceAdd, Int.reduceSub, Int.reduceMul, reduceIte, ↓reduceIte, fn26, cx26, Tryd.f26, ti3, ti26, ti27, ti29, ti70, h1, h3, g1, g3, h]
theorem f42 {x : Bool} (hK : IsS 5 rows K) (hK2 : IsS 5 rows2 K2) (h : ((rows.length : Int) != (rows2.length : Int)) = false)
    (hloop : ev cfg (.loop 26 4 ⟨(.dead :: .dat K2 :: .clo 10 [] :: .dead :: .dead :: .dead :: .dead :: .dead :: .dead :: .dead :: .dead :: .dead :: .dead :: .dead :: .dead :: .dat K :: I rows.length :: I 0 :: .dead :: .dead :: .dead :: .dead :: .dead :: .dead :: .dead :: .dead :: .dead :: .dead :: .dead :: .dead :: .dead :: .dead :: []), bx, bx.length, none, false⟩) = some (if x = true then .loop (.exit 0) ⟨(.dead :: .dead :: .dead :: .dead :: .dead :: .dead :: .dead :: .dead :: .dead :: .dead :: .dead :: .dead :: .dead :: .dead :: .dead :: .dead :: .dead :: .dead :: .dead :: .dead :: .dead :: .dead :: .dead :: .dead :: .dead :: .dead :: .dead :: .dead :: .dead :: .dead :: .dead :: .dead :: []), bx, bx.length, none, false⟩ else .loop .ret ⟨(.dead :: .dead :: .dead :: .dead :: .dead :: .dead :: B false :: .dead :: .dead :: .dead :: .dead :: .dead :: .dead :: .dead :: .dead :: .dead :: .dead :: .dead :: .dead :: .dead :: .dead :: .dead :: .dead :: .dead :: .dead :: .dead :: .dead :: .dead :: .dead :: .dead :: .dead :: .dead :: []), bx, bx.length, none, false⟩)) :
    stepJ (ev cfg) cfg (.call 26 [.dat K, .dat K2, .clo 10 []] bx) = some (.ret (B x) none) := by
  obtain ⟨w, h1, h2, h3⟩ := hK
  obtain ⟨w2, g1, g2, g3⟩ := hK2
  cases x <;> simp only [Bool.false_eq_true, if_true, if_false] at hloop <;> simp (maxSteps := 2000000) only [go_sem, Nat.reduceSub, Nat.reduceAdd, Nat.reduceMul, Nat.reduceLT, Nat.reduceLeDiff, Nat.reduceBEq, Nat.reduceEqDiff, Nat.reduceGT, Int.reduceToNat, Int.reduceLT, Int.reduceNeg, Int.reduceEq, Int.reduceBEq, Int.reduceBNe, Int.reduceLE, Int.reduceGT, Int.reduceGE, Int.reduceNe, Int.reduceAdd, Int.reduceSub, Int.reduceMul, reduceIte, ↓reduceIte, fn26, cx26, Tryd.f26, ti3, ti26, ti27, ti29, ti70, h1, h3, g1, g3, h, hloop]

theorem e41 {n i : Nat} (hge : n ≤ i) :
    stepJ (ev cfg) cfg (.loop 25 4 ⟨(.dat L :: .dat L2 :: .dead :: .dead :: .dead :: .dead :: .dead :: .dead :: .dead :: .dead :: .dead :: .dead :: I n :: I i :: .dead :: .dead :: .dead :: .dead :: .dead :: .dead :: .dead :: .dead :: .dead :: .dead :: .dead :: .dead :: []), bx, bx.length, none, false⟩) = some (.loop (.exit 0) ⟨(.dead :: .dead :: .dead :: .dead :: .dead :: .dead :: .dead :: .dead :: .dead :: .dead :: .dead :: .dead :: .dead :: .dead :: .dead :: .dead :: .dead :: .dead :: .dead :: .dead :: .dead :: .dead :: .dead :: .dead :: .dead :: .dead :: []), bx, bx.length, none, false⟩) := by
  simp (maxSteps := 2000000) only [go_sem, Nat.reduceSub, Nat.reduceAdd, Nat.reduceMul, Nat.reduceLT, Nat.reduceLeDiff, Nat.reduceBEq, Nat.reduceEqDiff, Nat.reduceGT, Int.reduceToNat, Int.reduceLT, Int.reduceNeg, Int.reduceEq, Int.reduceBEq, Int.reduceBNe, Int.reduceLE, Int.reduceGT, Int.reduceGE, Int.reduceNe, Int.reduceAdd, Int.reduceSub, Int.reduceMul, reduceIte, ↓reduceIte, fn25, cx25, Tryd.f25, ti3, ti27, ti70, nat_ge hge, List.take_length, List.drop_length, Nat.le_refl, Nat.sub_self]
theorem f41_len (hL : IsS 3 lr L) (hL2 : IsS 3 lr2 L2) (h : ((lr.length : Int) != (lr2.length : Int)) = true) :
    stepJ (ev cfg) cfg (.call 25 [.dat L, .dat L2] bx) = some (.ret (B false) none) := by
  obtain ⟨w, h1, h2, h3⟩ := hL
  obtain ⟨w2, g1, g2, g3⟩ := hL2
  simp (maxSteps := 2000000) only [go_sem, Nat.reduceSub, Nat.reduceAdd, Nat.reduceMul, Nat.reduceLT, Nat.reduceLeDiff, Nat.reduceBEq, Nat.reduceEqDiff, Nat.reduceGT, Int.reduceToNat, Int.reduceLT, Int.reduceNeg, Int.reduceEq, Int.reduceBEq, Int.reduceBNe, Int.reduceLE, Int.reduceGT, Int.reduceGE, Int.reduceNe, Int.reduceAdd, Int.reduceSub, Int.reduceMul, reduceIte, ↓reduceIte, fn25, cx25, Tryd.f25, ti3, ti27, ti70, h1, h3, g1, g3, h]
theorem f41 {x : Bool} (hL : IsS 3 lr L) (hL2 : IsS 3 lr2 L2) (h : ((lr.length : Int) != (lr2.length : Int)) = false)
    (hloop : ev cfg (.loop 25 4 ⟨(.dat L :: .dat L2 :: .dead :: .dead :: .dead :: .dead :: .dead :: .dead :: .dead :: .dead :: .dead :: .dead :: I lr.length :: I 0 :: .dead :: .dead :: .dead :: .dead :: .dead :: .dead :: .dead :: .dead :: .dead :: .dead :: .dead :: .dead :: []), bx, bx.length, none, false⟩) = some (if x = true then .loop (.exit 0) ⟨(.dead :: .dead :: .dead :: .dead :: .dead :: .dead :: .dead :: .dead :: .dead :: .dead :: .dead :: .dead :: .dead :: .dead :: .dead :: .dead :: .dead :: .dead :: .dead :: .dead :: .dead :: .dead :: .dead :: .dead :: .dead :: .dead :: []), bx, bx.length, none, false⟩ else .loop .ret ⟨(.dead :: .dead :: .dead :: .dead :: B false :: .dead :: .dead :: .dead :: .dead :: .dead :: .dead :: .dead :: .dead :: .dead :: .dead :: .dead :: .dead :: .dead :: .dead :: .dead :: .dead :: .dead :: .dead :: .dead :: .dead :: .dead :: []), bx, bx.length, none, false⟩)) :
    stepJ (ev cfg) cfg (.call 25 [.dat L, .dat L2] bx) = some (.ret (B x) none) := by
  obtain ⟨w, h1, h2, h3⟩ := hL
  obtain ⟨w2, g1, g2, g3⟩ := hL2
  cases x <;> simp only [Bool.false_eq_true, if_true, if_false] at hloop <;> simp (maxSteps := 2000000) only [go_sem, Nat.reduceSub, Nat.reduceAdd, Nat.reduceMul, Nat.reduceLT, Nat.reduceLeDiff, Nat.reduceBEq, Nat.reduceEqDiff, Nat.reduceGT, Int.reduceToNat, Int.reduceLT, Int.reduceNeg, Int.reduceEq, Int.reduceBEq, Int.reduceBNe, Int.reduceLE, Int.reduceGT, Int.reduceGE, Int.reduceNe, Int.reduceAdd, Int.reduceSub, Int.reduceMul, reduceIte, ↓reduceIte, fn25, cx25, Tryd.f25, ti3, ti27, ti70, h1, h3, g1, g3, h, hloop]

def altK : D := .sl 5 [[dI 2, dI 1, dI 0, .nil, .nil], [dI 5, dI 2, dI 0, .sl 5 [[dI 2, dI 3, dI 0, .nil, .nil], [dI 1, dI 0, dI 0, .nil, .nil]], .nil]]
theorem f11 (ht : ∀ bx : List Box, ev cfg (.call 9 [.agg [I 3, I 0, I 0, .dat altK, .dat .nil]] bx) = some (.ret (.tup [S ⟨#[40, 115, 101, 113, 32, 49, 32, 40, 97, 108, 116, 58, 50, 32, 51, 32, 45, 41, 41]⟩, I 0]) none))
    (hz : ∀ bx : List Box, ev cfg (.call 12 [.agg [I 3, I 0, I 0, .dat altK, .dat .nil]] bx) = some (.ret (I 5) none))
    (hs : ∀ bx : List Box, ev cfg (.call 10 [.agg [I 3, I 0, I 0, .dat altK, .dat .nil], .agg [I 3, I 0, I 0, .dat altK, .dat .nil]] bx) = some (.ret (B true) none)) :
    stepJ (ev cfg) cfg (.call 7 [] bx) = some (.ret (B true) none) := by
  simp only [altK] at ht hz hs
  simp (maxSteps := 2000000) only [go_sem, Nat.reduceSub, Nat.reduceAdd, Nat.reduceMul, Nat.reduceLT, Nat.reduceLeDiff, Nat.reduceBEq, Nat.reduceEqDiff, Nat.reduceGT, Int.reduceToNat, Int.reduceLT, Int.reduceNeg, Int.reduceEq, Int.reduceBEq, Int.reduceBNe, Int.reduceLE, Int.reduceGT, Int.reduceGE, Int.reduceNe, Int.reduceAdd, Int.reduceSub, Int.reduceMul, reduceIte, ↓reduceIte, fn7, cx7, Tryd.f7, ti3, ti26, ti27, ti29, ti70, ht, hz, hs, Int.reduceBEq]

end

end Go.Proofs.YtifckjhggamefaaDoor
