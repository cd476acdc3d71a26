/- Rounds of package net's functions: All, Check. No condition. -/
import Derived.Test.YtifckjhggamefaaDoorAt
import Derived.Test.YtifckjhggamefaaDoorB9
set_option linter.unusedSimpArgs false
set_option linter.unusedVariables false
set_option linter.unusedSectionVars false
namespace Go.Proofs.YtifckjhggamefaaDoor
open Go Go.Vx
set_option maxHeartbeats 4000000
set_option maxRecDepth 10000

section
variable {bx : List Box} {c : Box} {nr fr sr tr rs : List (List D)} {N F K X : D} {i p l l1 l2 : Nat} {k a f t op n s z : Int} {e v x y : Bool}

theorem all1_f (hN : IsS 5 nr N) (hF : F.oneC = true) (hl : l < bx.length) (hb : bx[l]? = some [.dat N, .dat F]) (hp : nr[p]? = some [dI k, dI a, dI op, dI n, K]) (hK : K.oneC = true) (hr : ∀ bx : List Box, ev cfg (.call 47 [.agg [I k, I a, I op, I n, .dat K]] bx) = some (.ret (B v) none)) :
    stepJ (ev cfg) cfg (.call 46 [I p, .ptr l 0] bx) = some (.ret (B (!v)) none) := by
  obtain ⟨w, h1, h2, h3⟩ := hN
  obtain rfl := isS_w h2 hp
  have l2 : p < nr.length := (List.getElem?_eq_some_iff.1 hp).1
  simp (maxSteps := 2000000) only [go_sem, Nat.reduceSub, Nat.reduceAdd, Nat.reduceMul, Nat.reduceLT, Nat.reduceLeDiff, Nat.reduceBEq, Nat.reduceEqDiff, Nat.reduceGT, Int.reduceToNat, Int.reduceLT, Int.reduceNeg, Int.reduceEq, Int.reduceBEq, Int.reduceBNe, Int.reduceLE, Int.reduceGT, Int.reduceGE, Int.reduceNe, Int.reduceAdd, Int.reduceSub, Int.reduceMul, reduceIte, ↓reduceIte, fn46, cx46, Tryd.f46, ti3, ti4, ti22, ti23, ti25, ti53, ti55, ti57, ti60, h1, h3, hF, hl, hb, hp, l2, hK, hr, nat_neg, Int.toNat_natCast]
theorem all2_f (hN : N.oneC = true) (hF : IsS 6 fr F) (hl : l < bx.length) (hb : bx[l]? = some [.dat N, .dat F]) (hp : fr[p]? = some [dI f, dI t, .lit (.bool e), dI op, dI n, K]) (hK : K.oneC = true) (hr : ∀ bx : List Box, ev cfg (.call 49 [.agg [.dat N, .dat F], .agg [I f, I t, B e, I op, I n, .dat K]] bx) = some (.ret (B v) none)) :
    stepJ (ev cfg) cfg (.call 48 [I p, .ptr l 0] bx) = some (.ret (B (!v)) none) := by
  obtain ⟨w, h1, h2, h3⟩ := hF
  obtain rfl := isS_w h2 hp
  have l2 : p < fr.length := (List.getElem?_eq_some_iff.1 hp).1
  simp (maxSteps := 2000000) only [go_sem, Nat.reduceSub, Nat.reduceAdd, Nat.reduceMul, Nat.reduceLT, Nat.reduceLeDiff, Nat.reduceBEq, Nat.reduceEqDiff, Nat.reduceGT, Int.reduceToNat, Int.reduceLT, Int.reduceNeg, Int.reduceEq, Int.reduceBEq, Int.reduceBNe, Int.reduceLE, Int.reduceGT, Int.reduceGE, Int.reduceNe, Int.reduceAdd, Int.reduceSub, Int.reduceMul, reduceIte, ↓reduceIte, fn48, cx48, Tryd.f48, ti3, ti4, ti22, ti23, ti25, ti53, ti55, ti57, ti60, h1, h3, hN, hl, hb, hp, l2, hK, hr, nat_neg, Int.toNat_natCast]
theorem all3_f (h1 : l1 < bx.length) (h2 : l2 < bx.length) (b1 : bx[l1]? = some [.dat (.sl 1 sr)]) (b2 : bx[l2]? = some [.dat (.sl 1 tr)]) (hs : sr[p]? = some [.lit (.bool x)]) (ht : tr[p]? = some [.lit (.bool y)]) :
    stepJ (ev cfg) cfg (.call 54 [I p, .ptr l1 0, .ptr l2 0] bx) = some (.ret (B (!x || !y)) none) := by
  have q1 : p < sr.length := (List.getElem?_eq_some_iff.1 hs).1
  have q2 : p < tr.length := (List.getElem?_eq_some_iff.1 ht).1
  cases x <;> simp (maxSteps := 2000000) only [go_sem, Nat.reduceSub, Nat.reduceAdd, Nat.reduceMul, Nat.reduceLT, Nat.reduceLeDiff, Nat.reduceBEq, Nat.reduceEqDiff, Nat.reduceGT, Int.reduceToNat, Int.reduceLT, Int.reduceNeg, Int.reduceEq, Int.reduceBEq, Int.reduceBNe, Int.reduceLE, Int.reduceGT, Int.reduceGE, Int.reduceNe, Int.reduceAdd, Int.reduceSub, Int.reduceMul, reduceIte, ↓reduceIte, fn54, cx54, Tryd.f54, ti4, ti92, h1, h2, b1, b2, hs, ht, q1, q2, nat_neg, Int.toNat_natCast]

theorem all_big (hN : IsS 5 nr N) (hF : IsS 6 fr F) (hb : (decide ((nr.length : Int) > 24) || decide ((fr.length : Int) > 40)) = true) :
    stepJ (ev cfg) cfg (.call 33 [.agg [.dat N, .dat F]] bx) = some (.ret (.own true 2 [[dI 1, dI 0]]) none) := by
  obtain ⟨w, h1, h2, h3⟩ := hN
  obtain ⟨w, g1, g2, g3⟩ := hF
  cases c1 : decide ((nr.length : Int) > 24)
  · rw [c1, Bool.false_or] at hb
    simp (maxSteps := 2000000) only [go_sem, Nat.reduceSub, Nat.reduceAdd, Nat.reduceMul, Nat.reduceLT, Nat.reduceLeDiff, Nat.reduceBEq, Nat.reduceEqDiff, Nat.reduceGT, Int.reduceToNat, Int.reduceLT, Int.reduceNeg, Int.reduceEq, Int.reduceBEq, Int.reduceBNe, Int.reduceLE, Int.reduceGT, Int.reduceGE, Int.reduceNe, Int.reduceAdd, Int.reduceSub, Int.reduceMul, reduceIte, ↓reduceIte, fn33, cx33, Tryd.f33, ti3, ti4, ti22, ti23, ti25, ti53, ti55, ti57, ti60, ti79, ti82, ti92, h1, h3, g1, g3, c1, hb]
  · simp (maxSteps := 2000000) only [go_sem, Nat.reduceSub, Nat.reduceAdd, Nat.reduceMul, Nat.reduceLT, Nat.reduceLeDiff, Nat.reduceBEq, Nat.reduceEqDiff, Nat.reduceGT, Int.reduceToNat, Int.reduceLT, Int.reduceNeg, Int.reduceEq, Int.reduceBEq, Int.reduceBNe, Int.reduceLE, Int.reduceGT, Int.reduceGE, Int.reduceNe, Int.reduceAdd, Int.reduceSub, Int.reduceMul, reduceIte, ↓reduceIte, fn33, cx33, Tryd.f33, ti3, ti4, ti22, ti23, ti25, ti53, ti55, ti57, ti60, ti79, ti82, ti92, h1, h3, g1, g3, c1]
section
variable (hN : IsS 5 nr N) (hF : IsS 6 fr F) (c1 : decide ((nr.length : Int) > 24) = false) (c2 : decide ((fr.length : Int) > 40) = false) (hrs : decide ((rs.length : Int) > 0) = true)
include hN hF c1 c2
include hrs in
theorem all_1 (hpl : ev cfg (.call 45 [I 1, I nr.length, .clo 46 [bx.length]] (bx ++ [[.dat N, .dat F]])) = some (.ret (.own true 2 rs) none)) :
    stepJ (ev cfg) cfg (.call 33 [.agg [.dat N, .dat F]] bx) = some (.ret (.own true 2 rs) none) := by
  obtain ⟨w, h1, h2, h3⟩ := hN
  obtain ⟨w, g1, g2, g3⟩ := hF
  simp (maxSteps := 2000000) only [go_sem, Nat.reduceSub, Nat.reduceAdd, Nat.reduceMul, Nat.reduceLT, Nat.reduceLeDiff, Nat.reduceBEq, Nat.reduceEqDiff, Nat.reduceGT, Int.reduceToNat, Int.reduceLT, Int.reduceNeg, Int.reduceEq, Int.reduceBEq, Int.reduceBNe, Int.reduceLE, Int.reduceGT, Int.reduceGE, Int.reduceNe, Int.reduceAdd, Int.reduceSub, Int.reduceMul, reduceIte, ↓reduceIte, fn33, cx33, Tryd.f33, ti3, ti4, ti22, ti23, ti25, ti53, ti55, ti57, ti60, ti79, ti82, ti92, h1, h3, g1, g3, c1, c2, hpl, hrs]
include hrs in
theorem all_2 (hpl : ev cfg (.call 45 [I 1, I nr.length, .clo 46 [bx.length]] (bx ++ [[.dat N, .dat F]])) = some (.ret (.dat .nil) none))
    (hpl2 : ev cfg (.call 45 [I 2, I fr.length, .clo 48 [bx.length]] (bx ++ [[.dat N, .dat F]])) = some (.ret (.own true 2 rs) none)) :
    stepJ (ev cfg) cfg (.call 33 [.agg [.dat N, .dat F]] bx) = some (.ret (.own true 2 rs) none) := by
  obtain ⟨w, h1, h2, h3⟩ := hN
  obtain ⟨w, g1, g2, g3⟩ := hF
  have z0 : decide (((0 : Nat) : Int) > 0) = false := by decide
  simp (maxSteps := 2000000) only [go_sem, Nat.reduceSub, Nat.reduceAdd, Nat.reduceMul, Nat.reduceLT, Nat.reduceLeDiff, Nat.reduceBEq, Nat.reduceEqDiff, Nat.reduceGT, Int.reduceToNat, Int.reduceLT, Int.reduceNeg, Int.reduceEq, Int.reduceBEq, Int.reduceBNe, Int.reduceLE, Int.reduceGT, Int.reduceGE, Int.reduceNe, Int.reduceAdd, Int.reduceSub, Int.reduceMul, reduceIte, ↓reduceIte, fn33, cx33, Tryd.f33, ti3, ti4, ti22, ti23, ti25, ti53, ti55, ti57, ti60, ti79, ti82, ti92, h1, h3, g1, g3, c1, c2, hpl, hpl2, hrs, z0]
include hrs in
theorem all_3 (hpl : ev cfg (.call 45 [I 1, I nr.length, .clo 46 [bx.length]] (bx ++ [[.dat N, .dat F]])) = some (.ret (.dat .nil) none))
    (hpl2 : ev cfg (.call 45 [I 2, I fr.length, .clo 48 [bx.length]] (bx ++ [[.dat N, .dat F]])) = some (.ret (.dat .nil) none))
    (h3d : ∀ bx : List Box, ev cfg (.call 50 [.agg [.dat N, .dat F]] bx) = some (.ret (.own true 2 rs) none)) :
    stepJ (ev cfg) cfg (.call 33 [.agg [.dat N, .dat F]] bx) = some (.ret (.own true 2 rs) none) := by
  obtain ⟨w, h1, h2, h3⟩ := hN
  obtain ⟨w, g1, g2, g3⟩ := hF
  have z0 : decide (((0 : Nat) : Int) > 0) = false := by decide
  simp (maxSteps := 2000000) only [go_sem, Nat.reduceSub, Nat.reduceAdd, Nat.reduceMul, Nat.reduceLT, Nat.reduceLeDiff, Nat.reduceBEq, Nat.reduceEqDiff, Nat.reduceGT, Int.reduceToNat, Int.reduceLT, Int.reduceNeg, Int.reduceEq, Int.reduceBEq, Int.reduceBNe, Int.reduceLE, Int.reduceGT, Int.reduceGE, Int.reduceNe, Int.reduceAdd, Int.reduceSub, Int.reduceMul, reduceIte, ↓reduceIte, fn33, cx33, Tryd.f33, ti3, ti4, ti22, ti23, ti25, ti53, ti55, ti57, ti60, ti79, ti82, ti92, h1, h3, g1, g3, c1, c2, hpl, hpl2, h3d, hrs, z0]
theorem all_4 {Z : PV} (hZ : Z = mkS 2 rs) (hpl : ev cfg (.call 45 [I 1, I nr.length, .clo 46 [bx.length]] (bx ++ [[.dat N, .dat F]])) = some (.ret (.dat .nil) none))
    (hpl2 : ev cfg (.call 45 [I 2, I fr.length, .clo 48 [bx.length]] (bx ++ [[.dat N, .dat F]])) = some (.ret (.dat .nil) none))
    (h3d : ∀ bx : List Box, ev cfg (.call 50 [.agg [.dat N, .dat F]] bx) = some (.ret (.dat .nil) none))
    (hst : ∀ bx : List Box, ev cfg (.call 52 [.agg [.dat N, .dat F]] bx) = some (.ret (I s) none)) (hen : ∀ bx : List Box, ev cfg (.call 53 [.agg [.dat N, .dat F]] bx) = some (.ret (I z) none))
    (hm1 : ∀ bx : List Box, ev cfg (.call 51 [.agg [.dat N, .dat F], I s, B false] bx) = some (.ret (.dat (.sl 1 sr)) none)) (hm2 : ∀ bx : List Box, ev cfg (.call 51 [.agg [.dat N, .dat F], I z, B true] bx) = some (.ret (.dat (.sl 1 tr)) none))
    (hpl4 : ev cfg (.call 45 [I 4, I nr.length, .clo 54 [bx.length + 1, bx.length + 2]] (bx ++ [[.dat N, .dat F], [.dat (.sl 1 sr)], [.dat (.sl 1 tr)]])) = some (.ret Z none)) :
    stepJ (ev cfg) cfg (.call 33 [.agg [.dat N, .dat F]] bx) = some (.ret Z none) := by
  obtain ⟨w, h1, h2, h3⟩ := hN
  obtain ⟨w, g1, g2, g3⟩ := hF
  subst hZ
  have z0 : decide (((0 : Nat) : Int) > 0) = false := by decide
  cases rs <;> simp only [mkS] at hpl4 ⊢ <;> simp (maxSteps := 2000000) only [go_sem, Nat.reduceSub, Nat.reduceAdd, Nat.reduceMul, Nat.reduceLT, Nat.reduceLeDiff, Nat.reduceBEq, Nat.reduceEqDiff, Nat.reduceGT, Int.reduceToNat, Int.reduceLT, Int.reduceNeg, Int.reduceEq, Int.reduceBEq, Int.reduceBNe, Int.reduceLE, Int.reduceGT, Int.reduceGE, Int.reduceNe, Int.reduceAdd, Int.reduceSub, Int.reduceMul, reduceIte, ↓reduceIte, fn33, cx33, Tryd.f33, ti3, ti4, ti22, ti23, ti25, ti53, ti55, ti57, ti60, ti79, ti82, ti92, h1, h3, g1, g3, c1, c2, hpl, hpl2, h3d, hst, hen, hm1, hm2, hpl4, z0]
end
theorem check_0 (hN : N.oneC = true) (hF : F.oneC = true) (hall : ∀ bx : List Box, ev cfg (.call 33 [.agg [.dat N, .dat F]] bx) = some (.ret (.dat .nil) none)) :
    stepJ (ev cfg) cfg (.call 17 [.agg [.dat N, .dat F]] bx) = some (.ret (.tup [I 0, I 0]) none) := by
  have z0 : decide (((0 : Nat) : Int) > 0) = false := by decide
  simp (maxSteps := 2000000) only [go_sem, Nat.reduceSub, Nat.reduceAdd, Nat.reduceMul, Nat.reduceLT, Nat.reduceLeDiff, Nat.reduceBEq, Nat.reduceEqDiff, Nat.reduceGT, Int.reduceToNat, Int.reduceLT, Int.reduceNeg, Int.reduceEq, Int.reduceBEq, Int.reduceBNe, Int.reduceLE, Int.reduceGT, Int.reduceGE, Int.reduceNe, Int.reduceAdd, Int.reduceSub, Int.reduceMul, reduceIte, ↓reduceIte, fn17, cx17, Tryd.f17, ti3, ti4, ti22, ti23, ti25, ti53, ti55, ti57, ti60, ti79, ti82, hN, hF, hall, z0]
theorem check_1 {r q : Int} (hN : N.oneC = true) (hF : F.oneC = true) (hall : ∀ bx : List Box, ev cfg (.call 33 [.agg [.dat N, .dat F]] bx) = some (.ret (.own true 2 ([dI r, dI q] :: rs)) none)) :
    stepJ (ev cfg) cfg (.call 17 [.agg [.dat N, .dat F]] bx) = some (.ret (.tup [I r, I q]) none) := by
  have h9 : decide (((rs.length + 1 : Nat) : Int) > 0) = true := decide_eq_true (by omega)
  have h8 : (0 < rs.length + 1) = True := by simp
  simp (maxSteps := 2000000) only [go_sem, Nat.reduceSub, Nat.reduceAdd, Nat.reduceMul, Nat.reduceLT, Nat.reduceLeDiff, Nat.reduceBEq, Nat.reduceEqDiff, Nat.reduceGT, Int.reduceToNat, Int.reduceLT, Int.reduceNeg, Int.reduceEq, Int.reduceBEq, Int.reduceBNe, Int.reduceLE, Int.reduceGT, Int.reduceGE, Int.reduceNe, Int.reduceAdd, Int.reduceSub, Int.reduceMul, reduceIte, ↓reduceIte, fn17, cx17, Tryd.f17, ti3, ti4, ti22, ti23, ti25, ti53, ti55, ti57, ti60, ti79, ti82, hN, hF, hall, h9, h8]
end

end Go.Proofs.YtifckjhggamefaaDoor
